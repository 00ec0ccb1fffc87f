-- By a program of this session (wip/tools/mk.py), out of the kit's print of the translation; Lean checks it.
import Derived.Test.YtibaclnknialbaaQ0
import Derived.Test.YtibaclnknialbaaQ1
import Derived.Test.YtibaclnknialbaaQ2
import Derived.Test.YtibaclnknialbaaQ4
import Derived.Test.YtibaclnknialbaaQ6
import Derived.Test.YtibaclnknialbaaQ7
import Derived.Test.YtibaclnknialbaaQ8
import Derived.Test.YtibaclnknialbaaQ9
import Derived.Test.YtibaclnknialbaaQ10
import Derived.Test.YtibaclnknialbaaQ11
import Derived.Test.YtibaclnknialbaaQ12
import Derived.Test.YtibaclnknialbaaQ13
import Derived.Test.YtibaclnknialbaaQ14
import Derived.Test.YtibaclnknialbaaQ15
import Derived.Test.YtibaclnknialbaaQ16
namespace Go.Proofs.Ytibaclnknialbaa.Q
open Go.RowKit Go.Proofs.YtibaclnknialbaaW.PrintWords Go.Proofs.YtibaclnknialbaaW.PrintLast Go.Proofs.YtibaclnknialbaaW.PrintMore
attribute [local go_sem] max2_int min2_int max_two min_two max_three min_three max_four min_four   -- for this text's walks alone
set_option linter.unusedVariables false
set_option linter.unusedSimpArgs false

attribute [local go_sem high] eqA26
/-! ### waveletlaw01_exampleHolds: function 17 -/
mutual
def waveletlaw01_exampleHolds.j0 : Nat → List (S26) → Bool → Int → Int → Int → Int → Option (Bool)
  | 0, _, _, _, _, _, _ => none
  | k + 1, x2, x33, x153000, x153001, x153002, x153003 => if x33 = true then (some false) else ((waveletlaw01_of.f 0 0 4 4).bind fun bt190 => ((waveletlaw01_of.f 2 1 9 3).bind fun bt194 => ((rect_Intersect.f bt190.1 bt190.2.1 bt190.2.2.1 bt190.2.2.2 bt194.1 bt194.2.1 bt194.2.2.1 bt194.2.2.2).bind fun bt198 => ((waveletlaw01_of.f 2 1 4 3).bind fun bt202 => (if (!(bt198.1 == bt202.1) || (!(bt198.2.1 == bt202.2.1) || (!(bt198.2.2.1 == bt202.2.2.1) || (!(bt198.2.2.2 == bt202.2.2.2))))) = true then (waveletlaw01_exampleHolds.j1 k x2 true x153000 x153001 x153002 x153003) else ((waveletlaw01_of.f 3 3 4 4).bind fun bt206 => ((waveletlaw01_of.f 7 7 7 9).bind fun bt210 => ((waveletlaw01_of.f 1 5 2 6).bind fun bt214 => ((rect_Bound.f k (([(⟨bt206.1, bt206.2.1, bt206.2.2.1, bt206.2.2.2⟩ : S26), (⟨bt210.1, bt210.2.1, bt210.2.2.1, bt210.2.2.2⟩ : S26), (⟨bt214.1, bt214.2.1, bt214.2.2.1, bt214.2.2.2⟩ : S26)] : List (S26)))).bind fun bt221 => ((waveletlaw01_of.f 1 3 4 6).bind fun bt225 => (if (!(bt221.1 == bt225.1) || (!(bt221.2.1 == bt225.2.1) || (!(bt221.2.2.1 == bt225.2.2.1) || (!(bt221.2.2.2 == bt225.2.2.2))))) = true then (waveletlaw01_exampleHolds.j1 k x2 true x153000 x153001 x153002 x153003) else ((waveletlaw01_of.f 9 9 9 9).bind fun bt229 => ((rect_Contains.f x153000 x153001 x153002 x153003 bt229.1 bt229.2.1 bt229.2.2.1 bt229.2.2.2).bind fun t233 => (waveletlaw01_exampleHolds.j1 k x2 (!t233) x153000 x153001 x153002 x153003))))))))))))))
def waveletlaw01_exampleHolds.j1 : Nat → List (S26) → Bool → Int → Int → Int → Int → Option (Bool)
  | 0, _, _, _, _, _, _ => none
  | k + 1, x2, x53, x153000, x153001, x153002, x153003 => if x53 = true then (some false) else ((rect_Reduce.f k x153000 x153001 x153002 x153003 2 2).bind fun bt234 => ((waveletlaw01_of.f 2 0 4 3).bind fun bt238 => (if (bt234.1 == bt238.1 && (bt234.2.1 == bt238.2.1 && (bt234.2.2.1 == bt238.2.2.1 && (bt234.2.2.2 == bt238.2.2.2)))) = true then ((rect_Cells.f k x153000 x153001 x153002 x153003 4 4).bind fun t242 => ((waveletref01_Same.f k t242 x2).bind fun t245 => (if t245 = true then ((rect_Has.f x153000 x153001 x153002 x153003 3 4).bind fun t246 => (some t246)) else (some false)))) else (some false))))
end
def waveletlaw01_exampleHolds.f (k : Nat)  : Option (Bool) := (waveletlaw01_of.f 3 0 8 5).bind fun bt148 => ((waveletlaw01_of.f 3 0 4 4).bind fun bt153 => ((waveletlaw01_of.f 4 0 8 4).bind fun bt157 => ((waveletlaw01_of.f 3 4 4 5).bind fun bt161 => ((waveletlaw01_of.f 4 4 8 5).bind fun bt165 => ((some (([(⟨bt153.1, bt153.2.1, bt153.2.2.1, bt153.2.2.2⟩ : S26), (⟨bt157.1, bt157.2.1, bt157.2.2.1, bt157.2.2.2⟩ : S26), (⟨bt161.1, bt161.2.1, bt161.2.2.1, bt161.2.2.2⟩ : S26), (⟨bt165.1, bt165.2.1, bt165.2.2.1, bt165.2.2.2⟩ : S26)] : List (S26)) : List (S26))).bind fun y169 => ((rect_CeilDiv.f (-7) 2).bind fun t172 => (if t172 = (-3) then ((rect_FloorDiv.f (-7) 2).bind fun t173 => (if t173 = (-4) then ((waveletlaw01_of.f 2 3 2 9).bind fun bt174 => ((rect_Valid.f bt174.1 bt174.2.1 bt174.2.2.1 bt174.2.2.2).bind fun t178 => (if t178 = true then ((waveletlaw01_of.f 2 3 2 9).bind fun bt179 => ((rect_Empty.f bt179.1 bt179.2.1 bt179.2.2.1 bt179.2.2.2).bind fun t183 => (if t183 = true then ((waveletlaw01_of.f 5 0 2 1).bind fun bt184 => ((rect_Valid.f bt184.1 bt184.2.1 bt184.2.2.1 bt184.2.2.2).bind fun t188 => (if t188 = true then (waveletlaw01_exampleHolds.j0 k y169 true bt148.1 bt148.2.1 bt148.2.2.1 bt148.2.2.2) else ((rect_Area.f bt148.1 bt148.2.1 bt148.2.2.1 bt148.2.2.2).bind fun t189 => (waveletlaw01_exampleHolds.j0 k y169 (t189 != 25) bt148.1 bt148.2.1 bt148.2.2.1 bt148.2.2.2))))) else (waveletlaw01_exampleHolds.j0 k y169 true bt148.1 bt148.2.1 bt148.2.2.1 bt148.2.2.2)))) else (waveletlaw01_exampleHolds.j0 k y169 true bt148.1 bt148.2.1 bt148.2.2.1 bt148.2.2.2)))) else (waveletlaw01_exampleHolds.j0 k y169 true bt148.1 bt148.2.1 bt148.2.2.1 bt148.2.2.2))) else (waveletlaw01_exampleHolds.j0 k y169 true bt148.1 bt148.2.1 bt148.2.2.1 bt148.2.2.2))))))))
theorem waveletlaw01_exampleHolds.mono_l : ∀ k, (∀ y0 y1 y2 y3 y4 y5, LeO (waveletlaw01_exampleHolds.j0 k y0 y1 y2 y3 y4 y5) (waveletlaw01_exampleHolds.j0 (k + 1) y0 y1 y2 y3 y4 y5)) ∧ (∀ y0 y1 y2 y3 y4 y5, LeO (waveletlaw01_exampleHolds.j1 k y0 y1 y2 y3 y4 y5) (waveletlaw01_exampleHolds.j1 (k + 1) y0 y1 y2 y3 y4 y5))
  | 0 => ⟨fun _ _ _ _ _ _ r h => by simp [waveletlaw01_exampleHolds.j0] at h, fun _ _ _ _ _ _ r h => by simp [waveletlaw01_exampleHolds.j1] at h⟩
  | k + 1 => by
    obtain ⟨ih0, ih1⟩ := waveletlaw01_exampleHolds.mono_l k
    refine ⟨?_, ?_⟩
    · intro y0 y1 y2 y3 y4 y5
      unfold waveletlaw01_exampleHolds.j0
      repeat' first
      | (with_reducible exact ih0 _ _ _ _ _ _)
      | (with_reducible exact ih1 _ _ _ _ _ _)
      | (with_reducible exact rect_Bound.mono _ _)
      | (with_reducible exact rect_Cells.mono _ _ _ _ _ _ _)
      | (with_reducible exact rect_Reduce.mono _ _ _ _ _ _ _)
      | (with_reducible exact waveletref01_Same.mono _ _ _)
      | (with_reducible exact LeO.refl _)
      | (with_reducible exact LeO.none _)
      | (with_reducible refine LeO.ite ?_ ?_)
      | (with_reducible refine LeO.bind ?_ (fun _ => ?_))
      | exact ih0 _ _ _ _ _ _
      | exact ih1 _ _ _ _ _ _
      | exact rect_Bound.mono _ _
      | exact rect_Cells.mono _ _ _ _ _ _ _
      | exact rect_Reduce.mono _ _ _ _ _ _ _
      | exact waveletref01_Same.mono _ _ _
      | exact LeO.none _
      | refine LeO.ite ?_ ?_
      | refine LeO.bind ?_ (fun _ => ?_)
    · intro y0 y1 y2 y3 y4 y5
      unfold waveletlaw01_exampleHolds.j1
      repeat' first
      | (with_reducible exact ih0 _ _ _ _ _ _)
      | (with_reducible exact ih1 _ _ _ _ _ _)
      | (with_reducible exact rect_Bound.mono _ _)
      | (with_reducible exact rect_Cells.mono _ _ _ _ _ _ _)
      | (with_reducible exact rect_Reduce.mono _ _ _ _ _ _ _)
      | (with_reducible exact waveletref01_Same.mono _ _ _)
      | (with_reducible exact LeO.refl _)
      | (with_reducible exact LeO.none _)
      | (with_reducible refine LeO.ite ?_ ?_)
      | (with_reducible refine LeO.bind ?_ (fun _ => ?_))
      | exact ih0 _ _ _ _ _ _
      | exact ih1 _ _ _ _ _ _
      | exact rect_Bound.mono _ _
      | exact rect_Cells.mono _ _ _ _ _ _ _
      | exact rect_Reduce.mono _ _ _ _ _ _ _
      | exact waveletref01_Same.mono _ _ _
      | exact LeO.none _
      | refine LeO.ite ?_ ?_
      | refine LeO.bind ?_ (fun _ => ?_)
theorem waveletlaw01_exampleHolds.mono : ∀ k, LeO (waveletlaw01_exampleHolds.f k ) (waveletlaw01_exampleHolds.f (k + 1) ) := by
  intro  k
  obtain ⟨ih0, ih1⟩ := waveletlaw01_exampleHolds.mono_l k
  unfold waveletlaw01_exampleHolds.f
  repeat' first
      | (with_reducible exact ih0 _ _ _ _ _ _)
      | (with_reducible exact ih1 _ _ _ _ _ _)
      | (with_reducible exact rect_Bound.mono _ _)
      | (with_reducible exact rect_Cells.mono _ _ _ _ _ _ _)
      | (with_reducible exact rect_Reduce.mono _ _ _ _ _ _ _)
      | (with_reducible exact waveletref01_Same.mono _ _ _)
      | (with_reducible exact LeO.refl _)
      | (with_reducible exact LeO.none _)
      | (with_reducible refine LeO.ite ?_ ?_)
      | (with_reducible refine LeO.bind ?_ (fun _ => ?_))
      | exact ih0 _ _ _ _ _ _
      | exact ih1 _ _ _ _ _ _
      | exact rect_Bound.mono _ _
      | exact rect_Cells.mono _ _ _ _ _ _ _
      | exact rect_Reduce.mono _ _ _ _ _ _ _
      | exact waveletref01_Same.mono _ _ _
      | exact LeO.none _
      | refine LeO.ite ?_ ?_
      | refine LeO.bind ?_ (fun _ => ?_)
def waveletlaw01_exampleHolds.T5 : Bool × List (List Nat × List Nat) := (true, [([], []), ([0], []), ([0, 1, 1], [0, 1]), ([2], []), ([2, 3], [2, 3]), ([4, 3], [4]), ([5, 5], [5]), ([6, 5], [5]), ([7, 5], [5]), ([6, 7, 8, 5], [5, 6, 7, 8]), ([9, 8, 5], [5, 9]), ([10, 5], [5]), ([10, 11, 5], [5, 10, 11]), ([5, 12], [5, 12]), ([13, 11], [13]), ([14], [14]), ([14, 14], [14]), ([15, 16, 16, 14], [14, 15, 16]), ([17, 14], [14, 17]), ([14, 18], [14, 18])])
def waveletlaw01_exampleHolds.B5 : List Nat := [0, 1, 3, 7, 15, 31, 63, 127, 255, 511, 1023, 2047, 4095, 8191, 16383, 32767, 32767, 131071, 262143, 524287]
theorem waveletlaw01_exampleHolds.tab5 : rtab .any (opsOf Try.f17 5) = waveletlaw01_exampleHolds.T5 := by kernel_rfl
theorem waveletlaw01_exampleHolds.bits5 : waitsOk waveletlaw01_exampleHolds.T5.2 waveletlaw01_exampleHolds.B5 = true := by kernel_rfl
set_option maxHeartbeats 8000000 in
set_option maxRecDepth 100000 in
theorem waveletlaw01_exampleHolds.calls (k : Nat)  (r : Bool) (w : World) (h : waveletlaw01_exampleHolds.f k  = some r) :
    Calls Try.prog 17 #[] w fun e w' => e = .returned (.bool r) ∧ Below w.heap.size w w' := by
  have hu26 := Try.underlying26
  have hu28 := Try.underlying28
  have HB := Aside0.mk (Below.refl w.heap.size w)
  have H : ((waveletlaw01_of.f 3 0 8 5).bind fun bt148 => ((waveletlaw01_of.f 3 0 4 4).bind fun bt153 => ((waveletlaw01_of.f 4 0 8 4).bind fun bt157 => ((waveletlaw01_of.f 3 4 4 5).bind fun bt161 => ((waveletlaw01_of.f 4 4 8 5).bind fun bt165 => ((some (([(⟨bt153.1, bt153.2.1, bt153.2.2.1, bt153.2.2.2⟩ : S26), (⟨bt157.1, bt157.2.1, bt157.2.2.1, bt157.2.2.2⟩ : S26), (⟨bt161.1, bt161.2.1, bt161.2.2.1, bt161.2.2.2⟩ : S26), (⟨bt165.1, bt165.2.1, bt165.2.2.1, bt165.2.2.2⟩ : S26)] : List (S26)) : List (S26))).bind fun y169 => ((rect_CeilDiv.f (-7) 2).bind fun t172 => (if t172 = (-3) then ((rect_FloorDiv.f (-7) 2).bind fun t173 => (if t173 = (-4) then ((waveletlaw01_of.f 2 3 2 9).bind fun bt174 => ((rect_Valid.f bt174.1 bt174.2.1 bt174.2.2.1 bt174.2.2.2).bind fun t178 => (if t178 = true then ((waveletlaw01_of.f 2 3 2 9).bind fun bt179 => ((rect_Empty.f bt179.1 bt179.2.1 bt179.2.2.1 bt179.2.2.2).bind fun t183 => (if t183 = true then ((waveletlaw01_of.f 5 0 2 1).bind fun bt184 => ((rect_Valid.f bt184.1 bt184.2.1 bt184.2.2.1 bt184.2.2.2).bind fun t188 => (if t188 = true then (waveletlaw01_exampleHolds.j0 k y169 true bt148.1 bt148.2.1 bt148.2.2.1 bt148.2.2.2) else ((rect_Area.f bt148.1 bt148.2.1 bt148.2.2.1 bt148.2.2.2).bind fun t189 => (waveletlaw01_exampleHolds.j0 k y169 (t189 != 25) bt148.1 bt148.2.1 bt148.2.2.1 bt148.2.2.2))))) else (waveletlaw01_exampleHolds.j0 k y169 true bt148.1 bt148.2.1 bt148.2.2.1 bt148.2.2.2)))) else (waveletlaw01_exampleHolds.j0 k y169 true bt148.1 bt148.2.1 bt148.2.2.1 bt148.2.2.2)))) else (waveletlaw01_exampleHolds.j0 k y169 true bt148.1 bt148.2.1 bt148.2.2.1 bt148.2.2.2))) else (waveletlaw01_exampleHolds.j0 k y169 true bt148.1 bt148.2.1 bt148.2.2.1 bt148.2.2.2))))))))) = some r := h
  clear h
  replace H := Option.bind_eq_some_iff.mp H
  obtain ⟨⟨t148, t149, t150, t151⟩, A10, H⟩ := H
  replace H : ((waveletlaw01_of.f 3 0 4 4).bind fun bt153 => ((waveletlaw01_of.f 4 0 8 4).bind fun bt157 => ((waveletlaw01_of.f 3 4 4 5).bind fun bt161 => ((waveletlaw01_of.f 4 4 8 5).bind fun bt165 => ((some (([(⟨bt153.1, bt153.2.1, bt153.2.2.1, bt153.2.2.2⟩ : S26), (⟨bt157.1, bt157.2.1, bt157.2.2.1, bt157.2.2.2⟩ : S26), (⟨bt161.1, bt161.2.1, bt161.2.2.1, bt161.2.2.2⟩ : S26), (⟨bt165.1, bt165.2.1, bt165.2.2.1, bt165.2.2.2⟩ : S26)] : List (S26)) : List (S26))).bind fun y169 => ((rect_CeilDiv.f (-7) 2).bind fun t172 => (if t172 = (-3) then ((rect_FloorDiv.f (-7) 2).bind fun t173 => (if t173 = (-4) then ((waveletlaw01_of.f 2 3 2 9).bind fun bt174 => ((rect_Valid.f bt174.1 bt174.2.1 bt174.2.2.1 bt174.2.2.2).bind fun t178 => (if t178 = true then ((waveletlaw01_of.f 2 3 2 9).bind fun bt179 => ((rect_Empty.f bt179.1 bt179.2.1 bt179.2.2.1 bt179.2.2.2).bind fun t183 => (if t183 = true then ((waveletlaw01_of.f 5 0 2 1).bind fun bt184 => ((rect_Valid.f bt184.1 bt184.2.1 bt184.2.2.1 bt184.2.2.2).bind fun t188 => (if t188 = true then (waveletlaw01_exampleHolds.j0 k y169 true t148 t149 t150 t151) else ((rect_Area.f t148 t149 t150 t151).bind fun t189 => (waveletlaw01_exampleHolds.j0 k y169 (t189 != 25) t148 t149 t150 t151))))) else (waveletlaw01_exampleHolds.j0 k y169 true t148 t149 t150 t151)))) else (waveletlaw01_exampleHolds.j0 k y169 true t148 t149 t150 t151)))) else (waveletlaw01_exampleHolds.j0 k y169 true t148 t149 t150 t151))) else (waveletlaw01_exampleHolds.j0 k y169 true t148 t149 t150 t151)))))))) = some r := H
  have A1 := Aside0.mk A10
  clear A10
  replace H := Option.bind_eq_some_iff.mp H
  obtain ⟨⟨t153, t154, t155, t156⟩, A20, H⟩ := H
  replace H : ((waveletlaw01_of.f 4 0 8 4).bind fun bt157 => ((waveletlaw01_of.f 3 4 4 5).bind fun bt161 => ((waveletlaw01_of.f 4 4 8 5).bind fun bt165 => ((some (([(⟨t153, t154, t155, t156⟩ : S26), (⟨bt157.1, bt157.2.1, bt157.2.2.1, bt157.2.2.2⟩ : S26), (⟨bt161.1, bt161.2.1, bt161.2.2.1, bt161.2.2.2⟩ : S26), (⟨bt165.1, bt165.2.1, bt165.2.2.1, bt165.2.2.2⟩ : S26)] : List (S26)) : List (S26))).bind fun y169 => ((rect_CeilDiv.f (-7) 2).bind fun t172 => (if t172 = (-3) then ((rect_FloorDiv.f (-7) 2).bind fun t173 => (if t173 = (-4) then ((waveletlaw01_of.f 2 3 2 9).bind fun bt174 => ((rect_Valid.f bt174.1 bt174.2.1 bt174.2.2.1 bt174.2.2.2).bind fun t178 => (if t178 = true then ((waveletlaw01_of.f 2 3 2 9).bind fun bt179 => ((rect_Empty.f bt179.1 bt179.2.1 bt179.2.2.1 bt179.2.2.2).bind fun t183 => (if t183 = true then ((waveletlaw01_of.f 5 0 2 1).bind fun bt184 => ((rect_Valid.f bt184.1 bt184.2.1 bt184.2.2.1 bt184.2.2.2).bind fun t188 => (if t188 = true then (waveletlaw01_exampleHolds.j0 k y169 true t148 t149 t150 t151) else ((rect_Area.f t148 t149 t150 t151).bind fun t189 => (waveletlaw01_exampleHolds.j0 k y169 (t189 != 25) t148 t149 t150 t151))))) else (waveletlaw01_exampleHolds.j0 k y169 true t148 t149 t150 t151)))) else (waveletlaw01_exampleHolds.j0 k y169 true t148 t149 t150 t151)))) else (waveletlaw01_exampleHolds.j0 k y169 true t148 t149 t150 t151))) else (waveletlaw01_exampleHolds.j0 k y169 true t148 t149 t150 t151))))))) = some r := H
  have A2 := Aside0.mk A20
  clear A20
  replace H := Option.bind_eq_some_iff.mp H
  obtain ⟨⟨t157, t158, t159, t160⟩, A30, H⟩ := H
  replace H : ((waveletlaw01_of.f 3 4 4 5).bind fun bt161 => ((waveletlaw01_of.f 4 4 8 5).bind fun bt165 => ((some (([(⟨t153, t154, t155, t156⟩ : S26), (⟨t157, t158, t159, t160⟩ : S26), (⟨bt161.1, bt161.2.1, bt161.2.2.1, bt161.2.2.2⟩ : S26), (⟨bt165.1, bt165.2.1, bt165.2.2.1, bt165.2.2.2⟩ : S26)] : List (S26)) : List (S26))).bind fun y169 => ((rect_CeilDiv.f (-7) 2).bind fun t172 => (if t172 = (-3) then ((rect_FloorDiv.f (-7) 2).bind fun t173 => (if t173 = (-4) then ((waveletlaw01_of.f 2 3 2 9).bind fun bt174 => ((rect_Valid.f bt174.1 bt174.2.1 bt174.2.2.1 bt174.2.2.2).bind fun t178 => (if t178 = true then ((waveletlaw01_of.f 2 3 2 9).bind fun bt179 => ((rect_Empty.f bt179.1 bt179.2.1 bt179.2.2.1 bt179.2.2.2).bind fun t183 => (if t183 = true then ((waveletlaw01_of.f 5 0 2 1).bind fun bt184 => ((rect_Valid.f bt184.1 bt184.2.1 bt184.2.2.1 bt184.2.2.2).bind fun t188 => (if t188 = true then (waveletlaw01_exampleHolds.j0 k y169 true t148 t149 t150 t151) else ((rect_Area.f t148 t149 t150 t151).bind fun t189 => (waveletlaw01_exampleHolds.j0 k y169 (t189 != 25) t148 t149 t150 t151))))) else (waveletlaw01_exampleHolds.j0 k y169 true t148 t149 t150 t151)))) else (waveletlaw01_exampleHolds.j0 k y169 true t148 t149 t150 t151)))) else (waveletlaw01_exampleHolds.j0 k y169 true t148 t149 t150 t151))) else (waveletlaw01_exampleHolds.j0 k y169 true t148 t149 t150 t151)))))) = some r := H
  have A3 := Aside0.mk A30
  clear A30
  replace H := Option.bind_eq_some_iff.mp H
  obtain ⟨⟨t161, t162, t163, t164⟩, A40, H⟩ := H
  replace H : ((waveletlaw01_of.f 4 4 8 5).bind fun bt165 => ((some (([(⟨t153, t154, t155, t156⟩ : S26), (⟨t157, t158, t159, t160⟩ : S26), (⟨t161, t162, t163, t164⟩ : S26), (⟨bt165.1, bt165.2.1, bt165.2.2.1, bt165.2.2.2⟩ : S26)] : List (S26)) : List (S26))).bind fun y169 => ((rect_CeilDiv.f (-7) 2).bind fun t172 => (if t172 = (-3) then ((rect_FloorDiv.f (-7) 2).bind fun t173 => (if t173 = (-4) then ((waveletlaw01_of.f 2 3 2 9).bind fun bt174 => ((rect_Valid.f bt174.1 bt174.2.1 bt174.2.2.1 bt174.2.2.2).bind fun t178 => (if t178 = true then ((waveletlaw01_of.f 2 3 2 9).bind fun bt179 => ((rect_Empty.f bt179.1 bt179.2.1 bt179.2.2.1 bt179.2.2.2).bind fun t183 => (if t183 = true then ((waveletlaw01_of.f 5 0 2 1).bind fun bt184 => ((rect_Valid.f bt184.1 bt184.2.1 bt184.2.2.1 bt184.2.2.2).bind fun t188 => (if t188 = true then (waveletlaw01_exampleHolds.j0 k y169 true t148 t149 t150 t151) else ((rect_Area.f t148 t149 t150 t151).bind fun t189 => (waveletlaw01_exampleHolds.j0 k y169 (t189 != 25) t148 t149 t150 t151))))) else (waveletlaw01_exampleHolds.j0 k y169 true t148 t149 t150 t151)))) else (waveletlaw01_exampleHolds.j0 k y169 true t148 t149 t150 t151)))) else (waveletlaw01_exampleHolds.j0 k y169 true t148 t149 t150 t151))) else (waveletlaw01_exampleHolds.j0 k y169 true t148 t149 t150 t151))))) = some r := H
  have A4 := Aside0.mk A40
  clear A40
  replace H := Option.bind_eq_some_iff.mp H
  obtain ⟨⟨t165, t166, t167, t168⟩, A50, H⟩ := H
  replace H : ((some (([(⟨t153, t154, t155, t156⟩ : S26), (⟨t157, t158, t159, t160⟩ : S26), (⟨t161, t162, t163, t164⟩ : S26), (⟨t165, t166, t167, t168⟩ : S26)] : List (S26)) : List (S26))).bind fun y169 => ((rect_CeilDiv.f (-7) 2).bind fun t172 => (if t172 = (-3) then ((rect_FloorDiv.f (-7) 2).bind fun t173 => (if t173 = (-4) then ((waveletlaw01_of.f 2 3 2 9).bind fun bt174 => ((rect_Valid.f bt174.1 bt174.2.1 bt174.2.2.1 bt174.2.2.2).bind fun t178 => (if t178 = true then ((waveletlaw01_of.f 2 3 2 9).bind fun bt179 => ((rect_Empty.f bt179.1 bt179.2.1 bt179.2.2.1 bt179.2.2.2).bind fun t183 => (if t183 = true then ((waveletlaw01_of.f 5 0 2 1).bind fun bt184 => ((rect_Valid.f bt184.1 bt184.2.1 bt184.2.2.1 bt184.2.2.2).bind fun t188 => (if t188 = true then (waveletlaw01_exampleHolds.j0 k y169 true t148 t149 t150 t151) else ((rect_Area.f t148 t149 t150 t151).bind fun t189 => (waveletlaw01_exampleHolds.j0 k y169 (t189 != 25) t148 t149 t150 t151))))) else (waveletlaw01_exampleHolds.j0 k y169 true t148 t149 t150 t151)))) else (waveletlaw01_exampleHolds.j0 k y169 true t148 t149 t150 t151)))) else (waveletlaw01_exampleHolds.j0 k y169 true t148 t149 t150 t151))) else (waveletlaw01_exampleHolds.j0 k y169 true t148 t149 t150 t151)))) = some r := H
  have A5 := Aside0.mk A50
  clear A50
  obtain ⟨y169, hy169⟩ : ∃ y_ : List (S26), y_ = (([(⟨t153, t154, t155, t156⟩ : S26), (⟨t157, t158, t159, t160⟩ : S26), (⟨t161, t162, t163, t164⟩ : S26), (⟨t165, t166, t167, t168⟩ : S26)] : List (S26))) := ⟨_, rfl⟩
  replace H : ((rect_CeilDiv.f (-7) 2).bind fun t172 => (if t172 = (-3) then ((rect_FloorDiv.f (-7) 2).bind fun t173 => (if t173 = (-4) then ((waveletlaw01_of.f 2 3 2 9).bind fun bt174 => ((rect_Valid.f bt174.1 bt174.2.1 bt174.2.2.1 bt174.2.2.2).bind fun t178 => (if t178 = true then ((waveletlaw01_of.f 2 3 2 9).bind fun bt179 => ((rect_Empty.f bt179.1 bt179.2.1 bt179.2.2.1 bt179.2.2.2).bind fun t183 => (if t183 = true then ((waveletlaw01_of.f 5 0 2 1).bind fun bt184 => ((rect_Valid.f bt184.1 bt184.2.1 bt184.2.2.1 bt184.2.2.2).bind fun t188 => (if t188 = true then (waveletlaw01_exampleHolds.j0 k y169 true t148 t149 t150 t151) else ((rect_Area.f t148 t149 t150 t151).bind fun t189 => (waveletlaw01_exampleHolds.j0 k y169 (t189 != 25) t148 t149 t150 t151))))) else (waveletlaw01_exampleHolds.j0 k y169 true t148 t149 t150 t151)))) else (waveletlaw01_exampleHolds.j0 k y169 true t148 t149 t150 t151)))) else (waveletlaw01_exampleHolds.j0 k y169 true t148 t149 t150 t151))) else (waveletlaw01_exampleHolds.j0 k y169 true t148 t149 t150 t151))) = some r := by first | (rw [hy169]; with_reducible exact H) | (have H2_ := (Option.bind_some _ _).symm.trans H; rw [hy169]; with_reducible exact H2_) | (have H2_ := (Option.bind_some _ _).symm.trans H; with_reducible exact H2_) | with_reducible exact H | (rw [hy169]; exact H) | exact H
  have Ny169 := Aside0.mk hy169
  clear hy169
  have HC6 := Aside0.mk H
  clear H
  go_enter Try.func17, Try.ntmps17
  go_upto_region 3 with (first | ((with_reducible refine gate_callee (f := 38) rfl ?_); refine goesL_ (some 3) rfl rfl Try.func38 (by kernel_rfl) rfl #[.int .i64 3, .int .i64 0, .int .i64 8, .int .i64 5] rfl (by (try simp only [List.map_toArray, List.map_cons, List.map_nil]); first | done | rfl | (simp only [List.length_drop, List.length_take]; rfl)) ?_; (with_reducible refine (waveletlaw01_of.calls 3 0 8 5 t148 t149 t150 t151 _ A1.out).mono ?_); rintro e w7 ⟨rfl, hb⟩; refine ⟨_, rfl, ?_⟩; have n0_ := Aside0.mk (below_step (by repeat (first | (with_reducible first | exact HB.out | apply below_alloc | apply pw_below_drewN | apply below_drew1) | exact HB.out)) hb); clear HB; have HB := n0_; clear n0_; (try clear hb); (try clear hb2); (try clear hk); (try clear hi)) | ((with_reducible refine gate_dst (N := 1) rfl ?_); (try (refine gate_guard (by rfl) ?_; dsimp only)); refine box_event ?hg (N := 1) ?hd (cs := #[.int .i64 0, .int .i64 0, .int .i64 0, .int .i64 0]) (t := 26) ?hr ?_; (case hd => rfl); (case hg => rfl); (case hr => first | (go_simp; done) | (go_simp; rfl)); intro gb152 hg w8 hbox hb; have n0_ := Aside0.mk (below_step (by repeat (first | (with_reducible first | exact HB.out | apply below_alloc | apply pw_below_drewN | apply below_drew1) | exact HB.out)) hb); have n1_ := Aside0.mk (hbox); have n2_ := Aside0.mk ((by rw [hg]; exact (below_size (by repeat (first | (with_reducible first | exact HB.out | apply below_alloc | apply pw_below_drewN | apply below_drew1) | exact HB.out))) : w.heap.size ≤ gb152)); have n3_ := Aside0.mk ((by rw [hg]; exact (below_size (by repeat (first | (with_reducible first | exact HB.out | apply below_alloc | apply pw_below_drewN | apply below_drew1) | exact HB.out))) : w.heap.size ≤ gb152)); clear HB; have HB := n0_; have BK152 := n1_; have GW152 := n2_; have GE152 := n3_; clear n0_ n1_ n2_ n3_; clear hb hbox hg; have hcz9_0 : w8.cell? ⟨gb152, 0, none⟩ = some (.int .i64 0) := (blk_cell BK152.out 0).trans rfl; have hcz9_1 : w8.cell? ⟨gb152, 1, none⟩ = some (.int .i64 0) := (blk_cell BK152.out 1).trans rfl; have hcz9_2 : w8.cell? ⟨gb152, 2, none⟩ = some (.int .i64 0) := (blk_cell BK152.out 2).trans rfl; have hcz9_3 : w8.cell? ⟨gb152, 3, none⟩ = some (.int .i64 0) := (blk_cell BK152.out 3).trans rfl; have hfz9_0 := blk_frozen BK152.out 0; have hfz9_1 := blk_frozen BK152.out 1; have hfz9_2 := blk_frozen BK152.out 2; have hfz9_3 := blk_frozen BK152.out 3) | ((with_reducible refine gate_callee (f := 38) rfl ?_); refine goesL_ (some 4) rfl rfl Try.func38 (by kernel_rfl) rfl #[.int .i64 3, .int .i64 0, .int .i64 4, .int .i64 4] rfl (by (try simp only [List.map_toArray, List.map_cons, List.map_nil]); first | done | rfl | (simp only [List.length_drop, List.length_take]; rfl)) ?_; (with_reducible refine (waveletlaw01_of.calls 3 0 4 4 t153 t154 t155 t156 _ A2.out).mono ?_); rintro e w10 ⟨rfl, hb⟩; refine ⟨_, rfl, ?_⟩; have n0_ := Aside0.mk (blk_below (g := gb152) (o := .cells #[.int .i64 t148, .int .i64 t149, .int .i64 t150, .int .i64 t151] 26 (0, 0)) (by (with_reducible repeat (first | refine blk_drewN ?_ _ | refine blk_drew ?_ | refine blk_alloc ?_ _)); refine blk_put (cs := #[.int .i64 t148, .int .i64 t149, .int .i64 t150, .int .i64 0]) ?_ 3 _ rfl; (with_reducible repeat (first | refine blk_drewN ?_ _ | refine blk_drew ?_ | refine blk_alloc ?_ _)); refine blk_put (cs := #[.int .i64 t148, .int .i64 t149, .int .i64 0, .int .i64 0]) ?_ 2 _ rfl; (with_reducible repeat (first | refine blk_drewN ?_ _ | refine blk_drew ?_ | refine blk_alloc ?_ _)); refine blk_put (cs := #[.int .i64 t148, .int .i64 0, .int .i64 0, .int .i64 0]) ?_ 1 _ rfl; (with_reducible repeat (first | refine blk_drewN ?_ _ | refine blk_drew ?_ | refine blk_alloc ?_ _)); refine blk_put (cs := #[.int .i64 0, .int .i64 0, .int .i64 0, .int .i64 0]) ?_ 0 _ rfl; (with_reducible repeat (first | refine blk_drewN ?_ _ | refine blk_drew ?_ | refine blk_alloc ?_ _)); exact BK152.out) hb); have n1_ := Aside0.mk (below_step (by repeat (first | (with_reducible first | exact HB.out | apply below_alloc | apply pw_below_drewN | apply below_drew1 | refine below_set ?_ GE152.out) | exact HB.out)) hb); clear BK152; clear HB; have BK152 := n0_; have HB := n1_; clear n0_ n1_; (try clear hb); (try clear hb2); (try clear hk); (try clear hi)) | ((with_reducible refine gate_callee (f := 38) rfl ?_); refine goesL_ (some 5) rfl rfl Try.func38 (by kernel_rfl) rfl #[.int .i64 4, .int .i64 0, .int .i64 8, .int .i64 4] rfl (by (try simp only [List.map_toArray, List.map_cons, List.map_nil]); first | done | rfl | (simp only [List.length_drop, List.length_take]; rfl)) ?_; (with_reducible refine (waveletlaw01_of.calls 4 0 8 4 t157 t158 t159 t160 _ A3.out).mono ?_); rintro e w11 ⟨rfl, hb⟩; refine ⟨_, rfl, ?_⟩; have n0_ := Aside0.mk (blk_below (g := gb152) (o := .cells #[.int .i64 t148, .int .i64 t149, .int .i64 t150, .int .i64 t151] 26 (0, 0)) (by (with_reducible repeat (first | refine blk_drewN ?_ _ | refine blk_drew ?_ | refine blk_alloc ?_ _)); exact BK152.out) hb); have n1_ := Aside0.mk (below_step (by repeat (first | (with_reducible first | exact HB.out | apply below_alloc | apply pw_below_drewN | apply below_drew1 | refine below_set ?_ GE152.out) | exact HB.out)) hb); clear BK152; clear HB; have BK152 := n0_; have HB := n1_; clear n0_ n1_; (try clear hb); (try clear hb2); (try clear hk); (try clear hi)) | ((with_reducible refine gate_callee (f := 38) rfl ?_); refine goesL_ (some 6) rfl rfl Try.func38 (by kernel_rfl) rfl #[.int .i64 3, .int .i64 4, .int .i64 4, .int .i64 5] rfl (by (try simp only [List.map_toArray, List.map_cons, List.map_nil]); first | done | rfl | (simp only [List.length_drop, List.length_take]; rfl)) ?_; (with_reducible refine (waveletlaw01_of.calls 3 4 4 5 t161 t162 t163 t164 _ A4.out).mono ?_); rintro e w12 ⟨rfl, hb⟩; refine ⟨_, rfl, ?_⟩; have n0_ := Aside0.mk (blk_below (g := gb152) (o := .cells #[.int .i64 t148, .int .i64 t149, .int .i64 t150, .int .i64 t151] 26 (0, 0)) (by (with_reducible repeat (first | refine blk_drewN ?_ _ | refine blk_drew ?_ | refine blk_alloc ?_ _)); exact BK152.out) hb); have n1_ := Aside0.mk (below_step (by repeat (first | (with_reducible first | exact HB.out | apply below_alloc | apply pw_below_drewN | apply below_drew1 | refine below_set ?_ GE152.out) | exact HB.out)) hb); clear BK152; clear HB; have BK152 := n0_; have HB := n1_; clear n0_ n1_; (try clear hb); (try clear hb2); (try clear hk); (try clear hi)) | ((with_reducible refine gate_callee (f := 38) rfl ?_); refine goesL_ (some 7) rfl rfl Try.func38 (by kernel_rfl) rfl #[.int .i64 4, .int .i64 4, .int .i64 8, .int .i64 5] rfl (by (try simp only [List.map_toArray, List.map_cons, List.map_nil]); first | done | rfl | (simp only [List.length_drop, List.length_take]; rfl)) ?_; (with_reducible refine (waveletlaw01_of.calls 4 4 8 5 t165 t166 t167 t168 _ A5.out).mono ?_); rintro e w13 ⟨rfl, hb⟩; refine ⟨_, rfl, ?_⟩; have n0_ := Aside0.mk (blk_below (g := gb152) (o := .cells #[.int .i64 t148, .int .i64 t149, .int .i64 t150, .int .i64 t151] 26 (0, 0)) (by (with_reducible repeat (first | refine blk_drewN ?_ _ | refine blk_drew ?_ | refine blk_alloc ?_ _)); exact BK152.out) hb); have n1_ := Aside0.mk (below_step (by repeat (first | (with_reducible first | exact HB.out | apply below_alloc | apply pw_below_drewN | apply below_drew1 | refine below_set ?_ GE152.out) | exact HB.out)) hb); clear BK152; clear HB; have BK152 := n0_; have HB := n1_; clear n0_ n1_; (try clear hb); (try clear hb2); (try clear hk); (try clear hi)) | ((with_reducible refine gate_dst (N := 8) rfl ?_); (try (refine gate_guard (by rfl) ?_; dsimp only)); refine Kd.R_lit k26 _ 26 ?hg (N := 8) ?hd (xs := ([(⟨t153, t154, t155, t156⟩ : S26), (⟨t157, t158, t159, t160⟩ : S26), (⟨t161, t162, t163, t164⟩ : S26), (⟨t165, t166, t167, t168⟩ : S26)] : List (S26))) (inner := [.int .i64 t153, .int .i64 t154, .int .i64 t155, .int .i64 t156, .int .i64 t157, .int .i64 t158, .int .i64 t159, .int .i64 t160, .int .i64 t161, .int .i64 t162, .int .i64 t163, .int .i64 t164, .int .i64 t165, .int .i64 t166, .int .i64 t167, .int .i64 t168]) (ok := fun _ => True) (okp := fun _ => True) ?hr ?hp (fun _ hk => hk) trivial (Below.refl _ _) (Nat.le_refl _) (by simp) ?_; (case hd => rfl); (case hg => rfl); (case hr => first | (go_simp; done) | (go_simp; rfl)); (case hp => exact (Reps.c4 (show Kd.M k26 _ _ _ (⟨t153, t154, t155, t156⟩ : S26) [.int .i64 t153, .int .i64 t154, .int .i64 t155, .int .i64 t156] from (k26_mkM _ _ _ (⟨t153, t154, t155, t156⟩ : S26) )) (Reps.c4 (show Kd.M k26 _ _ _ (⟨t157, t158, t159, t160⟩ : S26) [.int .i64 t157, .int .i64 t158, .int .i64 t159, .int .i64 t160] from (k26_mkM _ _ _ (⟨t157, t158, t159, t160⟩ : S26) )) (Reps.c4 (show Kd.M k26 _ _ _ (⟨t161, t162, t163, t164⟩ : S26) [.int .i64 t161, .int .i64 t162, .int .i64 t163, .int .i64 t164] from (k26_mkM _ _ _ (⟨t161, t162, t163, t164⟩ : S26) )) (Reps.c4 (show Kd.M k26 _ _ _ (⟨t165, t166, t167, t168⟩ : S26) [.int .i64 t165, .int .i64 t166, .int .i64 t167, .int .i64 t168] from (k26_mkM _ _ _ (⟨t165, t166, t167, t168⟩ : S26) )) (Reps.none _ _)))))); intro v170 w14 ho15 hb hg_ hnew_; clear hg_ hnew_; (first | rw [← Ny169.out] at ho15 | (simp only [Int.reduceToNat] at ho15; rw [← Ny169.out] at ho15)); have n0_ := Aside0.mk (Kd.R_lower (Kd.R_newB ho15 (g := gb152) (o := .cells #[.int .i64 t148, .int .i64 t149, .int .i64 t150, .int .i64 t151] 26 (0, 0)) (by (with_reducible repeat (first | refine blk_drewN ?_ _ | refine blk_drew ?_ | refine blk_alloc ?_ _)); exact BK152.out)) (below_size (by repeat (first | (with_reducible first | exact HB.out | apply below_alloc | apply pw_below_drewN | apply below_drew1 | refine below_set ?_ GE152.out) | exact HB.out)))); have n1_ := Aside0.mk (blk_below (g := gb152) (o := .cells #[.int .i64 t148, .int .i64 t149, .int .i64 t150, .int .i64 t151] 26 (0, 0)) (by (with_reducible repeat (first | refine blk_drewN ?_ _ | refine blk_drew ?_ | refine blk_alloc ?_ _)); exact BK152.out) hb); have n2_ := Aside0.mk (below_step (by repeat (first | (with_reducible first | exact HB.out | apply below_alloc | apply pw_below_drewN | apply below_drew1 | refine below_set ?_ GE152.out) | exact HB.out)) hb); clear BK152; clear HB; have HO171 := n0_; have BK152 := n1_; have HB := n2_; clear n0_ n1_ n2_; clear hb ho15))
  (try simp only [Act.put, List.setIfInBounds_toArray, List.set_cons_zero, List.set_cons_succ])
  go_cut [33] (fun v33 wc => ∃ (kq : Nat) (x33_5 : Bool), v33 = .bool x33_5 ∧ Aside0 (waveletlaw01_exampleHolds.j0 kq y169 x33_5 t148 t149 t150 t151 = some r) ∧ Aside0 (kq ≤ k) ∧ Aside0 (Kd.R k26 26 wc w.heap.size (fun k_ => k_ ≠ gb152) v170 y169) ∧ Aside0 (wc.heap[gb152]? = some (.cells #[.int .i64 t148, .int .i64 t149, .int .i64 t150, .int .i64 t151] 26 (0, 0))) ∧ Aside0 (Below w.heap.size w wc))
  case first =>
    have H := HC6.out
    clear HC6
    replace H := Option.bind_eq_some_iff.mp H
    obtain ⟨t172, A160, H⟩ := H
    replace H : (if t172 = (-3) then ((rect_FloorDiv.f (-7) 2).bind fun t173 => (if t173 = (-4) then ((waveletlaw01_of.f 2 3 2 9).bind fun bt174 => ((rect_Valid.f bt174.1 bt174.2.1 bt174.2.2.1 bt174.2.2.2).bind fun t178 => (if t178 = true then ((waveletlaw01_of.f 2 3 2 9).bind fun bt179 => ((rect_Empty.f bt179.1 bt179.2.1 bt179.2.2.1 bt179.2.2.2).bind fun t183 => (if t183 = true then ((waveletlaw01_of.f 5 0 2 1).bind fun bt184 => ((rect_Valid.f bt184.1 bt184.2.1 bt184.2.2.1 bt184.2.2.2).bind fun t188 => (if t188 = true then (waveletlaw01_exampleHolds.j0 k y169 true t148 t149 t150 t151) else ((rect_Area.f t148 t149 t150 t151).bind fun t189 => (waveletlaw01_exampleHolds.j0 k y169 (t189 != 25) t148 t149 t150 t151))))) else (waveletlaw01_exampleHolds.j0 k y169 true t148 t149 t150 t151)))) else (waveletlaw01_exampleHolds.j0 k y169 true t148 t149 t150 t151)))) else (waveletlaw01_exampleHolds.j0 k y169 true t148 t149 t150 t151))) else (waveletlaw01_exampleHolds.j0 k y169 true t148 t149 t150 t151)) = some r := H
    have A16 := Aside0.mk A160
    clear A160
    by_cases c17 : t172 = (-3)
    · rw [if_pos c17] at H
      have c17b0 : (t172 == (-3)) = true := beq_iff_eq.mpr c17
      have c17b1 : (t172 != (-3)) = false := bne_eq_false_iff_eq.mpr c17
      clear c17
      (first | rw [c17b0] | (simp only [i64_w, i32_w]; rw [c17b0]) | skip)
      replace H := Option.bind_eq_some_iff.mp H
      obtain ⟨t173, A180, H⟩ := H
      replace H : (if t173 = (-4) then ((waveletlaw01_of.f 2 3 2 9).bind fun bt174 => ((rect_Valid.f bt174.1 bt174.2.1 bt174.2.2.1 bt174.2.2.2).bind fun t178 => (if t178 = true then ((waveletlaw01_of.f 2 3 2 9).bind fun bt179 => ((rect_Empty.f bt179.1 bt179.2.1 bt179.2.2.1 bt179.2.2.2).bind fun t183 => (if t183 = true then ((waveletlaw01_of.f 5 0 2 1).bind fun bt184 => ((rect_Valid.f bt184.1 bt184.2.1 bt184.2.2.1 bt184.2.2.2).bind fun t188 => (if t188 = true then (waveletlaw01_exampleHolds.j0 k y169 true t148 t149 t150 t151) else ((rect_Area.f t148 t149 t150 t151).bind fun t189 => (waveletlaw01_exampleHolds.j0 k y169 (t189 != 25) t148 t149 t150 t151))))) else (waveletlaw01_exampleHolds.j0 k y169 true t148 t149 t150 t151)))) else (waveletlaw01_exampleHolds.j0 k y169 true t148 t149 t150 t151)))) else (waveletlaw01_exampleHolds.j0 k y169 true t148 t149 t150 t151)) = some r := H
      have A18 := Aside0.mk A180
      clear A180
      by_cases c19 : t173 = (-4)
      · rw [if_pos c19] at H
        have c19b0 : (t173 == (-4)) = true := beq_iff_eq.mpr c19
        have c19b1 : (t173 != (-4)) = false := bne_eq_false_iff_eq.mpr c19
        clear c19
        replace H := Option.bind_eq_some_iff.mp H
        obtain ⟨⟨t174, t175, t176, t177⟩, A200, H⟩ := H
        replace H : ((rect_Valid.f t174 t175 t176 t177).bind fun t178 => (if t178 = true then ((waveletlaw01_of.f 2 3 2 9).bind fun bt179 => ((rect_Empty.f bt179.1 bt179.2.1 bt179.2.2.1 bt179.2.2.2).bind fun t183 => (if t183 = true then ((waveletlaw01_of.f 5 0 2 1).bind fun bt184 => ((rect_Valid.f bt184.1 bt184.2.1 bt184.2.2.1 bt184.2.2.2).bind fun t188 => (if t188 = true then (waveletlaw01_exampleHolds.j0 k y169 true t148 t149 t150 t151) else ((rect_Area.f t148 t149 t150 t151).bind fun t189 => (waveletlaw01_exampleHolds.j0 k y169 (t189 != 25) t148 t149 t150 t151))))) else (waveletlaw01_exampleHolds.j0 k y169 true t148 t149 t150 t151)))) else (waveletlaw01_exampleHolds.j0 k y169 true t148 t149 t150 t151))) = some r := H
        have A20 := Aside0.mk A200
        clear A200
        replace H := Option.bind_eq_some_iff.mp H
        obtain ⟨t178, A210, H⟩ := H
        replace H : (if t178 = true then ((waveletlaw01_of.f 2 3 2 9).bind fun bt179 => ((rect_Empty.f bt179.1 bt179.2.1 bt179.2.2.1 bt179.2.2.2).bind fun t183 => (if t183 = true then ((waveletlaw01_of.f 5 0 2 1).bind fun bt184 => ((rect_Valid.f bt184.1 bt184.2.1 bt184.2.2.1 bt184.2.2.2).bind fun t188 => (if t188 = true then (waveletlaw01_exampleHolds.j0 k y169 true t148 t149 t150 t151) else ((rect_Area.f t148 t149 t150 t151).bind fun t189 => (waveletlaw01_exampleHolds.j0 k y169 (t189 != 25) t148 t149 t150 t151))))) else (waveletlaw01_exampleHolds.j0 k y169 true t148 t149 t150 t151)))) else (waveletlaw01_exampleHolds.j0 k y169 true t148 t149 t150 t151)) = some r := H
        have A21 := Aside0.mk A210
        clear A210
        by_cases c22 : t178 = true
        · subst c22
          have H1 : ((waveletlaw01_of.f 2 3 2 9).bind fun bt179 => ((rect_Empty.f bt179.1 bt179.2.1 bt179.2.2.1 bt179.2.2.2).bind fun t183 => (if t183 = true then ((waveletlaw01_of.f 5 0 2 1).bind fun bt184 => ((rect_Valid.f bt184.1 bt184.2.1 bt184.2.2.1 bt184.2.2.2).bind fun t188 => (if t188 = true then (waveletlaw01_exampleHolds.j0 k y169 true t148 t149 t150 t151) else ((rect_Area.f t148 t149 t150 t151).bind fun t189 => (waveletlaw01_exampleHolds.j0 k y169 (t189 != 25) t148 t149 t150 t151))))) else (waveletlaw01_exampleHolds.j0 k y169 true t148 t149 t150 t151)))) = some r := by rw [if_pos rfl] at H; exact H
          clear H
          have H := H1
          clear H1
          replace H := Option.bind_eq_some_iff.mp H
          obtain ⟨⟨t179, t180, t181, t182⟩, A230, H⟩ := H
          obtain ⟨rfl, rfl, rfl, rfl⟩ : t174 = t179 ∧ t175 = t180 ∧ t176 = t181 ∧ t177 = t182 := by have E_ := A20.out.symm.trans A230; simpa using E_
          replace H : ((rect_Empty.f t174 t175 t176 t177).bind fun t183 => (if t183 = true then ((waveletlaw01_of.f 5 0 2 1).bind fun bt184 => ((rect_Valid.f bt184.1 bt184.2.1 bt184.2.2.1 bt184.2.2.2).bind fun t188 => (if t188 = true then (waveletlaw01_exampleHolds.j0 k y169 true t148 t149 t150 t151) else ((rect_Area.f t148 t149 t150 t151).bind fun t189 => (waveletlaw01_exampleHolds.j0 k y169 (t189 != 25) t148 t149 t150 t151))))) else (waveletlaw01_exampleHolds.j0 k y169 true t148 t149 t150 t151))) = some r := H
          have A23 := Aside0.mk A230
          clear A230
          replace H := Option.bind_eq_some_iff.mp H
          obtain ⟨t183, A240, H⟩ := H
          replace H : (if t183 = true then ((waveletlaw01_of.f 5 0 2 1).bind fun bt184 => ((rect_Valid.f bt184.1 bt184.2.1 bt184.2.2.1 bt184.2.2.2).bind fun t188 => (if t188 = true then (waveletlaw01_exampleHolds.j0 k y169 true t148 t149 t150 t151) else ((rect_Area.f t148 t149 t150 t151).bind fun t189 => (waveletlaw01_exampleHolds.j0 k y169 (t189 != 25) t148 t149 t150 t151))))) else (waveletlaw01_exampleHolds.j0 k y169 true t148 t149 t150 t151)) = some r := H
          have A24 := Aside0.mk A240
          clear A240
          by_cases c25 : t183 = true
          · subst c25
            have H1 : ((waveletlaw01_of.f 5 0 2 1).bind fun bt184 => ((rect_Valid.f bt184.1 bt184.2.1 bt184.2.2.1 bt184.2.2.2).bind fun t188 => (if t188 = true then (waveletlaw01_exampleHolds.j0 k y169 true t148 t149 t150 t151) else ((rect_Area.f t148 t149 t150 t151).bind fun t189 => (waveletlaw01_exampleHolds.j0 k y169 (t189 != 25) t148 t149 t150 t151))))) = some r := by rw [if_pos rfl] at H; exact H
            clear H
            have H := H1
            clear H1
            replace H := Option.bind_eq_some_iff.mp H
            obtain ⟨⟨t184, t185, t186, t187⟩, A260, H⟩ := H
            replace H : ((rect_Valid.f t184 t185 t186 t187).bind fun t188 => (if t188 = true then (waveletlaw01_exampleHolds.j0 k y169 true t148 t149 t150 t151) else ((rect_Area.f t148 t149 t150 t151).bind fun t189 => (waveletlaw01_exampleHolds.j0 k y169 (t189 != 25) t148 t149 t150 t151)))) = some r := H
            have A26 := Aside0.mk A260
            clear A260
            replace H := Option.bind_eq_some_iff.mp H
            obtain ⟨t188, A270, H⟩ := H
            replace H : (if t188 = true then (waveletlaw01_exampleHolds.j0 k y169 true t148 t149 t150 t151) else ((rect_Area.f t148 t149 t150 t151).bind fun t189 => (waveletlaw01_exampleHolds.j0 k y169 (t189 != 25) t148 t149 t150 t151))) = some r := H
            have A27 := Aside0.mk A270
            clear A270
            by_cases c28 : t188 = true
            · subst c28
              have H1 : (waveletlaw01_exampleHolds.j0 k y169 true t148 t149 t150 t151) = some r := by rw [if_pos rfl] at H; exact H
              clear H
              have H := H1
              clear H1
              have H' := Aside0.mk H
              clear H
              go_wp2_with (first | ((with_reducible refine gate_callee (f := 13) rfl ?_); refine goesL_ (some 9) rfl rfl Try.func13 (by kernel_rfl) rfl #[.int .i64 (-7), .int .i64 2] rfl (by (try simp only [List.map_toArray, List.map_cons, List.map_nil]); first | done | rfl | (simp only [List.length_drop, List.length_take]; rfl)) ?_; (with_reducible refine (rect_CeilDiv.calls (-7) 2 t172 _ A16.out).mono ?_); rintro e w' ⟨rfl, ⟨nd, rfl⟩⟩; refine ⟨_, rfl, ?_⟩) | (go_at_call 15; (with_reducible refine (rect_FloorDiv.calls (-7) 2 t173 _ A18.out).mono ?_); rintro e w' ⟨rfl, ⟨nd, rfl⟩⟩) | (go_at_call 38; (with_reducible refine (waveletlaw01_of.calls 2 3 2 9 t174 t175 t176 t177 _ A20.out).mono ?_); rintro e w29 ⟨rfl, hb⟩; have n0_ := Aside0.mk (Kd.R_below (by (with_reducible repeat (first | apply Kd.R_alloc | apply Kd.R_drewN | apply Kd.R_drew)); exact HO171.out) hb); have n1_ := Aside0.mk (blk_below (g := gb152) (o := .cells #[.int .i64 t148, .int .i64 t149, .int .i64 t150, .int .i64 t151] 26 (0, 0)) (by (with_reducible repeat (first | refine blk_drewN ?_ _ | refine blk_drew ?_ | refine blk_alloc ?_ _)); exact BK152.out) hb); have n2_ := Aside0.mk (below_step (by repeat (first | (with_reducible first | exact HB.out | apply below_alloc | apply pw_below_drewN | apply below_drew1 | refine below_set ?_ GE152.out) | exact HB.out)) hb); clear HO171; clear BK152; clear HB; have HO171 := n0_; have BK152 := n1_; have HB := n2_; clear n0_ n1_ n2_; (try clear hb); (try clear hb2); (try clear hk); (try clear hi)) | (go_at_call 18; (with_reducible refine (rect_Valid.calls t174 t175 t176 t177 true _ A21.out).mono ?_); rintro e w30 ⟨rfl, hb⟩; have n0_ := Aside0.mk (Kd.R_below (by (with_reducible repeat (first | apply Kd.R_alloc | apply Kd.R_drewN | apply Kd.R_drew)); exact HO171.out) hb); have n1_ := Aside0.mk (blk_below (g := gb152) (o := .cells #[.int .i64 t148, .int .i64 t149, .int .i64 t150, .int .i64 t151] 26 (0, 0)) (by (with_reducible repeat (first | refine blk_drewN ?_ _ | refine blk_drew ?_ | refine blk_alloc ?_ _)); exact BK152.out) hb); have n2_ := Aside0.mk (below_step (by repeat (first | (with_reducible first | exact HB.out | apply below_alloc | apply pw_below_drewN | apply below_drew1 | refine below_set ?_ GE152.out) | exact HB.out)) hb); clear HO171; clear BK152; clear HB; have HO171 := n0_; have BK152 := n1_; have HB := n2_; clear n0_ n1_ n2_; (try clear hb); (try clear hb2); (try clear hk); (try clear hi)) | (go_at_call 38; (with_reducible refine (waveletlaw01_of.calls 2 3 2 9 t174 t175 t176 t177 _ A23.out).mono ?_); rintro e w31 ⟨rfl, hb⟩; have n0_ := Aside0.mk (Kd.R_below (by (with_reducible repeat (first | apply Kd.R_alloc | apply Kd.R_drewN | apply Kd.R_drew)); exact HO171.out) hb); have n1_ := Aside0.mk (blk_below (g := gb152) (o := .cells #[.int .i64 t148, .int .i64 t149, .int .i64 t150, .int .i64 t151] 26 (0, 0)) (by (with_reducible repeat (first | refine blk_drewN ?_ _ | refine blk_drew ?_ | refine blk_alloc ?_ _)); exact BK152.out) hb); have n2_ := Aside0.mk (below_step (by repeat (first | (with_reducible first | exact HB.out | apply below_alloc | apply pw_below_drewN | apply below_drew1 | refine below_set ?_ GE152.out) | exact HB.out)) hb); clear HO171; clear BK152; clear HB; have HO171 := n0_; have BK152 := n1_; have HB := n2_; clear n0_ n1_ n2_; (try clear hb); (try clear hb2); (try clear hk); (try clear hi)) | (go_at_call 22; (with_reducible refine (rect_Empty.calls t174 t175 t176 t177 true _ A24.out).mono ?_); rintro e w32 ⟨rfl, hb⟩; have n0_ := Aside0.mk (Kd.R_below (by (with_reducible repeat (first | apply Kd.R_alloc | apply Kd.R_drewN | apply Kd.R_drew)); exact HO171.out) hb); have n1_ := Aside0.mk (blk_below (g := gb152) (o := .cells #[.int .i64 t148, .int .i64 t149, .int .i64 t150, .int .i64 t151] 26 (0, 0)) (by (with_reducible repeat (first | refine blk_drewN ?_ _ | refine blk_drew ?_ | refine blk_alloc ?_ _)); exact BK152.out) hb); have n2_ := Aside0.mk (below_step (by repeat (first | (with_reducible first | exact HB.out | apply below_alloc | apply pw_below_drewN | apply below_drew1 | refine below_set ?_ GE152.out) | exact HB.out)) hb); clear HO171; clear BK152; clear HB; have HO171 := n0_; have BK152 := n1_; have HB := n2_; clear n0_ n1_ n2_; (try clear hb); (try clear hb2); (try clear hk); (try clear hi)) | (go_at_call 38; (with_reducible refine (waveletlaw01_of.calls 5 0 2 1 t184 t185 t186 t187 _ A26.out).mono ?_); rintro e w33 ⟨rfl, hb⟩; have n0_ := Aside0.mk (Kd.R_below (by (with_reducible repeat (first | apply Kd.R_alloc | apply Kd.R_drewN | apply Kd.R_drew)); exact HO171.out) hb); have n1_ := Aside0.mk (blk_below (g := gb152) (o := .cells #[.int .i64 t148, .int .i64 t149, .int .i64 t150, .int .i64 t151] 26 (0, 0)) (by (with_reducible repeat (first | refine blk_drewN ?_ _ | refine blk_drew ?_ | refine blk_alloc ?_ _)); exact BK152.out) hb); have n2_ := Aside0.mk (below_step (by repeat (first | (with_reducible first | exact HB.out | apply below_alloc | apply pw_below_drewN | apply below_drew1 | refine below_set ?_ GE152.out) | exact HB.out)) hb); clear HO171; clear BK152; clear HB; have HO171 := n0_; have BK152 := n1_; have HB := n2_; clear n0_ n1_ n2_; (try clear hb); (try clear hb2); (try clear hk); (try clear hi)) | (go_at_call 18; (with_reducible refine (rect_Valid.calls t184 t185 t186 t187 true _ A27.out).mono ?_); rintro e w34 ⟨rfl, hb⟩; have n0_ := Aside0.mk (Kd.R_below (by (with_reducible repeat (first | apply Kd.R_alloc | apply Kd.R_drewN | apply Kd.R_drew)); exact HO171.out) hb); have n1_ := Aside0.mk (blk_below (g := gb152) (o := .cells #[.int .i64 t148, .int .i64 t149, .int .i64 t150, .int .i64 t151] 26 (0, 0)) (by (with_reducible repeat (first | refine blk_drewN ?_ _ | refine blk_drew ?_ | refine blk_alloc ?_ _)); exact BK152.out) hb); have n2_ := Aside0.mk (below_step (by repeat (first | (with_reducible first | exact HB.out | apply below_alloc | apply pw_below_drewN | apply below_drew1 | refine below_set ?_ GE152.out) | exact HB.out)) hb); clear HO171; clear BK152; clear HB; have HO171 := n0_; have BK152 := n1_; have HB := n2_; clear n0_ n1_ n2_; (try clear hb); (try clear hb2); (try clear hk); (try clear hi)))
              go_meet
              case rel => exact ⟨_, (true), (by first | rfl | (simp; done) | (simp [*]; done)), H', ⟨by first | omega | exact Nat.le_refl _⟩, ⟨by (with_reducible repeat (first | apply Kd.R_alloc | apply Kd.R_drewN | apply Kd.R_drew)); exact Kd.R_mono HO171.out (fun _ hk => hk.2)⟩, ⟨by (with_reducible repeat (first | refine blk_drewN ?_ _ | refine blk_drew ?_ | refine blk_alloc ?_ _)); exact BK152.out⟩, ⟨by repeat (first | (with_reducible first | exact HB.out | apply below_alloc | apply pw_below_drewN | apply below_drew1 | refine below_set ?_ GE152.out) | exact HB.out)⟩⟩
            · replace c28 := Bool.eq_false_iff.mpr c28
              subst c28
              have H1 : ((rect_Area.f t148 t149 t150 t151).bind fun t189 => (waveletlaw01_exampleHolds.j0 k y169 (t189 != 25) t148 t149 t150 t151)) = some r := by rw [if_neg (show ¬ (false = true) by decide)] at H; exact H
              clear H
              have H := H1
              clear H1
              replace H := Option.bind_eq_some_iff.mp H
              obtain ⟨t189, A350, H⟩ := H
              replace H : (waveletlaw01_exampleHolds.j0 k y169 (t189 != 25) t148 t149 t150 t151) = some r := H
              have A35 := Aside0.mk A350
              clear A350
              have H' := Aside0.mk H
              clear H
              go_wp2_with (first | ((with_reducible refine gate_callee (f := 13) rfl ?_); refine goesL_ (some 9) rfl rfl Try.func13 (by kernel_rfl) rfl #[.int .i64 (-7), .int .i64 2] rfl (by (try simp only [List.map_toArray, List.map_cons, List.map_nil]); first | done | rfl | (simp only [List.length_drop, List.length_take]; rfl)) ?_; (with_reducible refine (rect_CeilDiv.calls (-7) 2 t172 _ A16.out).mono ?_); rintro e w' ⟨rfl, ⟨nd, rfl⟩⟩; refine ⟨_, rfl, ?_⟩) | (go_at_call 15; (with_reducible refine (rect_FloorDiv.calls (-7) 2 t173 _ A18.out).mono ?_); rintro e w' ⟨rfl, ⟨nd, rfl⟩⟩) | (go_at_call 38; (with_reducible refine (waveletlaw01_of.calls 2 3 2 9 t174 t175 t176 t177 _ A20.out).mono ?_); rintro e w36 ⟨rfl, hb⟩; have n0_ := Aside0.mk (Kd.R_below (by (with_reducible repeat (first | apply Kd.R_alloc | apply Kd.R_drewN | apply Kd.R_drew)); exact HO171.out) hb); have n1_ := Aside0.mk (blk_below (g := gb152) (o := .cells #[.int .i64 t148, .int .i64 t149, .int .i64 t150, .int .i64 t151] 26 (0, 0)) (by (with_reducible repeat (first | refine blk_drewN ?_ _ | refine blk_drew ?_ | refine blk_alloc ?_ _)); exact BK152.out) hb); have n2_ := Aside0.mk (below_step (by repeat (first | (with_reducible first | exact HB.out | apply below_alloc | apply pw_below_drewN | apply below_drew1 | refine below_set ?_ GE152.out) | exact HB.out)) hb); clear HO171; clear BK152; clear HB; have HO171 := n0_; have BK152 := n1_; have HB := n2_; clear n0_ n1_ n2_; (try clear hb); (try clear hb2); (try clear hk); (try clear hi)) | (go_at_call 18; (with_reducible refine (rect_Valid.calls t174 t175 t176 t177 true _ A21.out).mono ?_); rintro e w37 ⟨rfl, hb⟩; have n0_ := Aside0.mk (Kd.R_below (by (with_reducible repeat (first | apply Kd.R_alloc | apply Kd.R_drewN | apply Kd.R_drew)); exact HO171.out) hb); have n1_ := Aside0.mk (blk_below (g := gb152) (o := .cells #[.int .i64 t148, .int .i64 t149, .int .i64 t150, .int .i64 t151] 26 (0, 0)) (by (with_reducible repeat (first | refine blk_drewN ?_ _ | refine blk_drew ?_ | refine blk_alloc ?_ _)); exact BK152.out) hb); have n2_ := Aside0.mk (below_step (by repeat (first | (with_reducible first | exact HB.out | apply below_alloc | apply pw_below_drewN | apply below_drew1 | refine below_set ?_ GE152.out) | exact HB.out)) hb); clear HO171; clear BK152; clear HB; have HO171 := n0_; have BK152 := n1_; have HB := n2_; clear n0_ n1_ n2_; (try clear hb); (try clear hb2); (try clear hk); (try clear hi)) | (go_at_call 38; (with_reducible refine (waveletlaw01_of.calls 2 3 2 9 t174 t175 t176 t177 _ A23.out).mono ?_); rintro e w38 ⟨rfl, hb⟩; have n0_ := Aside0.mk (Kd.R_below (by (with_reducible repeat (first | apply Kd.R_alloc | apply Kd.R_drewN | apply Kd.R_drew)); exact HO171.out) hb); have n1_ := Aside0.mk (blk_below (g := gb152) (o := .cells #[.int .i64 t148, .int .i64 t149, .int .i64 t150, .int .i64 t151] 26 (0, 0)) (by (with_reducible repeat (first | refine blk_drewN ?_ _ | refine blk_drew ?_ | refine blk_alloc ?_ _)); exact BK152.out) hb); have n2_ := Aside0.mk (below_step (by repeat (first | (with_reducible first | exact HB.out | apply below_alloc | apply pw_below_drewN | apply below_drew1 | refine below_set ?_ GE152.out) | exact HB.out)) hb); clear HO171; clear BK152; clear HB; have HO171 := n0_; have BK152 := n1_; have HB := n2_; clear n0_ n1_ n2_; (try clear hb); (try clear hb2); (try clear hk); (try clear hi)) | (go_at_call 22; (with_reducible refine (rect_Empty.calls t174 t175 t176 t177 true _ A24.out).mono ?_); rintro e w39 ⟨rfl, hb⟩; have n0_ := Aside0.mk (Kd.R_below (by (with_reducible repeat (first | apply Kd.R_alloc | apply Kd.R_drewN | apply Kd.R_drew)); exact HO171.out) hb); have n1_ := Aside0.mk (blk_below (g := gb152) (o := .cells #[.int .i64 t148, .int .i64 t149, .int .i64 t150, .int .i64 t151] 26 (0, 0)) (by (with_reducible repeat (first | refine blk_drewN ?_ _ | refine blk_drew ?_ | refine blk_alloc ?_ _)); exact BK152.out) hb); have n2_ := Aside0.mk (below_step (by repeat (first | (with_reducible first | exact HB.out | apply below_alloc | apply pw_below_drewN | apply below_drew1 | refine below_set ?_ GE152.out) | exact HB.out)) hb); clear HO171; clear BK152; clear HB; have HO171 := n0_; have BK152 := n1_; have HB := n2_; clear n0_ n1_ n2_; (try clear hb); (try clear hb2); (try clear hk); (try clear hi)) | (go_at_call 38; (with_reducible refine (waveletlaw01_of.calls 5 0 2 1 t184 t185 t186 t187 _ A26.out).mono ?_); rintro e w40 ⟨rfl, hb⟩; have n0_ := Aside0.mk (Kd.R_below (by (with_reducible repeat (first | apply Kd.R_alloc | apply Kd.R_drewN | apply Kd.R_drew)); exact HO171.out) hb); have n1_ := Aside0.mk (blk_below (g := gb152) (o := .cells #[.int .i64 t148, .int .i64 t149, .int .i64 t150, .int .i64 t151] 26 (0, 0)) (by (with_reducible repeat (first | refine blk_drewN ?_ _ | refine blk_drew ?_ | refine blk_alloc ?_ _)); exact BK152.out) hb); have n2_ := Aside0.mk (below_step (by repeat (first | (with_reducible first | exact HB.out | apply below_alloc | apply pw_below_drewN | apply below_drew1 | refine below_set ?_ GE152.out) | exact HB.out)) hb); clear HO171; clear BK152; clear HB; have HO171 := n0_; have BK152 := n1_; have HB := n2_; clear n0_ n1_ n2_; (try clear hb); (try clear hb2); (try clear hk); (try clear hi)) | (go_at_call 18; (with_reducible refine (rect_Valid.calls t184 t185 t186 t187 false _ A27.out).mono ?_); rintro e w41 ⟨rfl, hb⟩; have n0_ := Aside0.mk (Kd.R_below (by (with_reducible repeat (first | apply Kd.R_alloc | apply Kd.R_drewN | apply Kd.R_drew)); exact HO171.out) hb); have n1_ := Aside0.mk (blk_below (g := gb152) (o := .cells #[.int .i64 t148, .int .i64 t149, .int .i64 t150, .int .i64 t151] 26 (0, 0)) (by (with_reducible repeat (first | refine blk_drewN ?_ _ | refine blk_drew ?_ | refine blk_alloc ?_ _)); exact BK152.out) hb); have n2_ := Aside0.mk (below_step (by repeat (first | (with_reducible first | exact HB.out | apply below_alloc | apply pw_below_drewN | apply below_drew1 | refine below_set ?_ GE152.out) | exact HB.out)) hb); clear HO171; clear BK152; clear HB; have HO171 := n0_; have BK152 := n1_; have HB := n2_; clear n0_ n1_ n2_; (try clear hb); (try clear hb2); (try clear hk); (try clear hi); have hcz42_0 : w41.cell? ⟨gb152, 0, none⟩ = some (.int .i64 t148) := (blk_cell BK152.out 0).trans rfl; have hcz42_1 : w41.cell? ⟨gb152, 1, none⟩ = some (.int .i64 t149) := (blk_cell BK152.out 1).trans rfl; have hcz42_2 : w41.cell? ⟨gb152, 2, none⟩ = some (.int .i64 t150) := (blk_cell BK152.out 2).trans rfl; have hcz42_3 : w41.cell? ⟨gb152, 3, none⟩ = some (.int .i64 t151) := (blk_cell BK152.out 3).trans rfl; have hfz42_0 := blk_frozen BK152.out 0; have hfz42_1 := blk_frozen BK152.out 1; have hfz42_2 := blk_frozen BK152.out 2; have hfz42_3 := blk_frozen BK152.out 3) | (go_at_call 20; (with_reducible refine (rect_Area.calls t148 t149 t150 t151 t189 _ A35.out).mono ?_); rintro e w43 ⟨rfl, hb⟩; have n0_ := Aside0.mk (Kd.R_below (by (with_reducible repeat (first | apply Kd.R_alloc | apply Kd.R_drewN | apply Kd.R_drew)); exact HO171.out) hb); have n1_ := Aside0.mk (blk_below (g := gb152) (o := .cells #[.int .i64 t148, .int .i64 t149, .int .i64 t150, .int .i64 t151] 26 (0, 0)) (by (with_reducible repeat (first | refine blk_drewN ?_ _ | refine blk_drew ?_ | refine blk_alloc ?_ _)); exact BK152.out) hb); have n2_ := Aside0.mk (below_step (by repeat (first | (with_reducible first | exact HB.out | apply below_alloc | apply pw_below_drewN | apply below_drew1 | refine below_set ?_ GE152.out) | exact HB.out)) hb); clear HO171; clear BK152; clear HB; have HO171 := n0_; have BK152 := n1_; have HB := n2_; clear n0_ n1_ n2_; (try clear hb); (try clear hb2); (try clear hk); (try clear hi)))
              go_meet
              case rel => exact ⟨_, ((t189 != 25)), (by first | rfl | (simp; done) | (simp [*]; done)), H', ⟨by first | omega | exact Nat.le_refl _⟩, ⟨by (with_reducible repeat (first | apply Kd.R_alloc | apply Kd.R_drewN | apply Kd.R_drew)); exact Kd.R_mono HO171.out (fun _ hk => hk.2)⟩, ⟨by (with_reducible repeat (first | refine blk_drewN ?_ _ | refine blk_drew ?_ | refine blk_alloc ?_ _)); exact BK152.out⟩, ⟨by repeat (first | (with_reducible first | exact HB.out | apply below_alloc | apply pw_below_drewN | apply below_drew1 | refine below_set ?_ GE152.out) | exact HB.out)⟩⟩
          · replace c25 := Bool.eq_false_iff.mpr c25
            subst c25
            have H1 : (waveletlaw01_exampleHolds.j0 k y169 true t148 t149 t150 t151) = some r := by rw [if_neg (show ¬ (false = true) by decide)] at H; exact H
            clear H
            have H := H1
            clear H1
            have H' := Aside0.mk H
            clear H
            go_wp2_with (first | ((with_reducible refine gate_callee (f := 13) rfl ?_); refine goesL_ (some 9) rfl rfl Try.func13 (by kernel_rfl) rfl #[.int .i64 (-7), .int .i64 2] rfl (by (try simp only [List.map_toArray, List.map_cons, List.map_nil]); first | done | rfl | (simp only [List.length_drop, List.length_take]; rfl)) ?_; (with_reducible refine (rect_CeilDiv.calls (-7) 2 t172 _ A16.out).mono ?_); rintro e w' ⟨rfl, ⟨nd, rfl⟩⟩; refine ⟨_, rfl, ?_⟩) | (go_at_call 15; (with_reducible refine (rect_FloorDiv.calls (-7) 2 t173 _ A18.out).mono ?_); rintro e w' ⟨rfl, ⟨nd, rfl⟩⟩) | (go_at_call 38; (with_reducible refine (waveletlaw01_of.calls 2 3 2 9 t174 t175 t176 t177 _ A20.out).mono ?_); rintro e w44 ⟨rfl, hb⟩; have n0_ := Aside0.mk (Kd.R_below (by (with_reducible repeat (first | apply Kd.R_alloc | apply Kd.R_drewN | apply Kd.R_drew)); exact HO171.out) hb); have n1_ := Aside0.mk (blk_below (g := gb152) (o := .cells #[.int .i64 t148, .int .i64 t149, .int .i64 t150, .int .i64 t151] 26 (0, 0)) (by (with_reducible repeat (first | refine blk_drewN ?_ _ | refine blk_drew ?_ | refine blk_alloc ?_ _)); exact BK152.out) hb); have n2_ := Aside0.mk (below_step (by repeat (first | (with_reducible first | exact HB.out | apply below_alloc | apply pw_below_drewN | apply below_drew1 | refine below_set ?_ GE152.out) | exact HB.out)) hb); clear HO171; clear BK152; clear HB; have HO171 := n0_; have BK152 := n1_; have HB := n2_; clear n0_ n1_ n2_; (try clear hb); (try clear hb2); (try clear hk); (try clear hi)) | (go_at_call 18; (with_reducible refine (rect_Valid.calls t174 t175 t176 t177 true _ A21.out).mono ?_); rintro e w45 ⟨rfl, hb⟩; have n0_ := Aside0.mk (Kd.R_below (by (with_reducible repeat (first | apply Kd.R_alloc | apply Kd.R_drewN | apply Kd.R_drew)); exact HO171.out) hb); have n1_ := Aside0.mk (blk_below (g := gb152) (o := .cells #[.int .i64 t148, .int .i64 t149, .int .i64 t150, .int .i64 t151] 26 (0, 0)) (by (with_reducible repeat (first | refine blk_drewN ?_ _ | refine blk_drew ?_ | refine blk_alloc ?_ _)); exact BK152.out) hb); have n2_ := Aside0.mk (below_step (by repeat (first | (with_reducible first | exact HB.out | apply below_alloc | apply pw_below_drewN | apply below_drew1 | refine below_set ?_ GE152.out) | exact HB.out)) hb); clear HO171; clear BK152; clear HB; have HO171 := n0_; have BK152 := n1_; have HB := n2_; clear n0_ n1_ n2_; (try clear hb); (try clear hb2); (try clear hk); (try clear hi)) | (go_at_call 38; (with_reducible refine (waveletlaw01_of.calls 2 3 2 9 t174 t175 t176 t177 _ A23.out).mono ?_); rintro e w46 ⟨rfl, hb⟩; have n0_ := Aside0.mk (Kd.R_below (by (with_reducible repeat (first | apply Kd.R_alloc | apply Kd.R_drewN | apply Kd.R_drew)); exact HO171.out) hb); have n1_ := Aside0.mk (blk_below (g := gb152) (o := .cells #[.int .i64 t148, .int .i64 t149, .int .i64 t150, .int .i64 t151] 26 (0, 0)) (by (with_reducible repeat (first | refine blk_drewN ?_ _ | refine blk_drew ?_ | refine blk_alloc ?_ _)); exact BK152.out) hb); have n2_ := Aside0.mk (below_step (by repeat (first | (with_reducible first | exact HB.out | apply below_alloc | apply pw_below_drewN | apply below_drew1 | refine below_set ?_ GE152.out) | exact HB.out)) hb); clear HO171; clear BK152; clear HB; have HO171 := n0_; have BK152 := n1_; have HB := n2_; clear n0_ n1_ n2_; (try clear hb); (try clear hb2); (try clear hk); (try clear hi)) | (go_at_call 22; (with_reducible refine (rect_Empty.calls t174 t175 t176 t177 false _ A24.out).mono ?_); rintro e w47 ⟨rfl, hb⟩; have n0_ := Aside0.mk (Kd.R_below (by (with_reducible repeat (first | apply Kd.R_alloc | apply Kd.R_drewN | apply Kd.R_drew)); exact HO171.out) hb); have n1_ := Aside0.mk (blk_below (g := gb152) (o := .cells #[.int .i64 t148, .int .i64 t149, .int .i64 t150, .int .i64 t151] 26 (0, 0)) (by (with_reducible repeat (first | refine blk_drewN ?_ _ | refine blk_drew ?_ | refine blk_alloc ?_ _)); exact BK152.out) hb); have n2_ := Aside0.mk (below_step (by repeat (first | (with_reducible first | exact HB.out | apply below_alloc | apply pw_below_drewN | apply below_drew1 | refine below_set ?_ GE152.out) | exact HB.out)) hb); clear HO171; clear BK152; clear HB; have HO171 := n0_; have BK152 := n1_; have HB := n2_; clear n0_ n1_ n2_; (try clear hb); (try clear hb2); (try clear hk); (try clear hi)))
            go_meet
            case rel => exact ⟨_, (true), (by first | rfl | (simp; done) | (simp [*]; done)), H', ⟨by first | omega | exact Nat.le_refl _⟩, ⟨by (with_reducible repeat (first | apply Kd.R_alloc | apply Kd.R_drewN | apply Kd.R_drew)); exact Kd.R_mono HO171.out (fun _ hk => hk.2)⟩, ⟨by (with_reducible repeat (first | refine blk_drewN ?_ _ | refine blk_drew ?_ | refine blk_alloc ?_ _)); exact BK152.out⟩, ⟨by repeat (first | (with_reducible first | exact HB.out | apply below_alloc | apply pw_below_drewN | apply below_drew1 | refine below_set ?_ GE152.out) | exact HB.out)⟩⟩
        · replace c22 := Bool.eq_false_iff.mpr c22
          subst c22
          have H1 : (waveletlaw01_exampleHolds.j0 k y169 true t148 t149 t150 t151) = some r := by rw [if_neg (show ¬ (false = true) by decide)] at H; exact H
          clear H
          have H := H1
          clear H1
          have H' := Aside0.mk H
          clear H
          go_wp2_with (first | ((with_reducible refine gate_callee (f := 13) rfl ?_); refine goesL_ (some 9) rfl rfl Try.func13 (by kernel_rfl) rfl #[.int .i64 (-7), .int .i64 2] rfl (by (try simp only [List.map_toArray, List.map_cons, List.map_nil]); first | done | rfl | (simp only [List.length_drop, List.length_take]; rfl)) ?_; (with_reducible refine (rect_CeilDiv.calls (-7) 2 t172 _ A16.out).mono ?_); rintro e w' ⟨rfl, ⟨nd, rfl⟩⟩; refine ⟨_, rfl, ?_⟩) | (go_at_call 15; (with_reducible refine (rect_FloorDiv.calls (-7) 2 t173 _ A18.out).mono ?_); rintro e w' ⟨rfl, ⟨nd, rfl⟩⟩) | (go_at_call 38; (with_reducible refine (waveletlaw01_of.calls 2 3 2 9 t174 t175 t176 t177 _ A20.out).mono ?_); rintro e w48 ⟨rfl, hb⟩; have n0_ := Aside0.mk (Kd.R_below (by (with_reducible repeat (first | apply Kd.R_alloc | apply Kd.R_drewN | apply Kd.R_drew)); exact HO171.out) hb); have n1_ := Aside0.mk (blk_below (g := gb152) (o := .cells #[.int .i64 t148, .int .i64 t149, .int .i64 t150, .int .i64 t151] 26 (0, 0)) (by (with_reducible repeat (first | refine blk_drewN ?_ _ | refine blk_drew ?_ | refine blk_alloc ?_ _)); exact BK152.out) hb); have n2_ := Aside0.mk (below_step (by repeat (first | (with_reducible first | exact HB.out | apply below_alloc | apply pw_below_drewN | apply below_drew1 | refine below_set ?_ GE152.out) | exact HB.out)) hb); clear HO171; clear BK152; clear HB; have HO171 := n0_; have BK152 := n1_; have HB := n2_; clear n0_ n1_ n2_; (try clear hb); (try clear hb2); (try clear hk); (try clear hi)) | (go_at_call 18; (with_reducible refine (rect_Valid.calls t174 t175 t176 t177 false _ A21.out).mono ?_); rintro e w49 ⟨rfl, hb⟩; have n0_ := Aside0.mk (Kd.R_below (by (with_reducible repeat (first | apply Kd.R_alloc | apply Kd.R_drewN | apply Kd.R_drew)); exact HO171.out) hb); have n1_ := Aside0.mk (blk_below (g := gb152) (o := .cells #[.int .i64 t148, .int .i64 t149, .int .i64 t150, .int .i64 t151] 26 (0, 0)) (by (with_reducible repeat (first | refine blk_drewN ?_ _ | refine blk_drew ?_ | refine blk_alloc ?_ _)); exact BK152.out) hb); have n2_ := Aside0.mk (below_step (by repeat (first | (with_reducible first | exact HB.out | apply below_alloc | apply pw_below_drewN | apply below_drew1 | refine below_set ?_ GE152.out) | exact HB.out)) hb); clear HO171; clear BK152; clear HB; have HO171 := n0_; have BK152 := n1_; have HB := n2_; clear n0_ n1_ n2_; (try clear hb); (try clear hb2); (try clear hk); (try clear hi)))
          go_meet
          case rel => exact ⟨_, (true), (by first | rfl | (simp; done) | (simp [*]; done)), H', ⟨by first | omega | exact Nat.le_refl _⟩, ⟨by (with_reducible repeat (first | apply Kd.R_alloc | apply Kd.R_drewN | apply Kd.R_drew)); exact Kd.R_mono HO171.out (fun _ hk => hk.2)⟩, ⟨by (with_reducible repeat (first | refine blk_drewN ?_ _ | refine blk_drew ?_ | refine blk_alloc ?_ _)); exact BK152.out⟩, ⟨by repeat (first | (with_reducible first | exact HB.out | apply below_alloc | apply pw_below_drewN | apply below_drew1 | refine below_set ?_ GE152.out) | exact HB.out)⟩⟩
      · rw [if_neg c19] at H
        have c19b0 : (t173 == (-4)) = false := beq_eq_false_iff_ne.mpr c19
        have c19b1 : (t173 != (-4)) = true := bne_iff_ne.mpr c19
        have H' := Aside0.mk H
        clear H
        go_wp2_with (first | ((with_reducible refine gate_callee (f := 13) rfl ?_); refine goesL_ (some 9) rfl rfl Try.func13 (by kernel_rfl) rfl #[.int .i64 (-7), .int .i64 2] rfl (by (try simp only [List.map_toArray, List.map_cons, List.map_nil]); first | done | rfl | (simp only [List.length_drop, List.length_take]; rfl)) ?_; (with_reducible refine (rect_CeilDiv.calls (-7) 2 t172 _ A16.out).mono ?_); rintro e w' ⟨rfl, ⟨nd, rfl⟩⟩; refine ⟨_, rfl, ?_⟩) | (go_at_call 15; (with_reducible refine (rect_FloorDiv.calls (-7) 2 t173 _ A18.out).mono ?_); rintro e w' ⟨rfl, ⟨nd, rfl⟩⟩))
        go_meet
        case rel => exact ⟨_, (true), (by first | rfl | (simp; done) | (simp [*]; done)), H', ⟨by first | omega | exact Nat.le_refl _⟩, ⟨by (with_reducible repeat (first | apply Kd.R_alloc | apply Kd.R_drewN | apply Kd.R_drew)); exact Kd.R_mono HO171.out (fun _ hk => hk.2)⟩, ⟨by (with_reducible repeat (first | refine blk_drewN ?_ _ | refine blk_drew ?_ | refine blk_alloc ?_ _)); exact BK152.out⟩, ⟨by repeat (first | (with_reducible first | exact HB.out | apply below_alloc | apply pw_below_drewN | apply below_drew1 | refine below_set ?_ GE152.out) | exact HB.out)⟩⟩
    · rw [if_neg c17] at H
      have c17b0 : (t172 == (-3)) = false := beq_eq_false_iff_ne.mpr c17
      have c17b1 : (t172 != (-3)) = true := bne_iff_ne.mpr c17
      (first | rw [c17b0] | (simp only [i64_w, i32_w]; rw [c17b0]) | skip)
      have H' := Aside0.mk H
      clear H
      go_wp2_with (first | ((with_reducible refine gate_callee (f := 13) rfl ?_); refine goesL_ (some 9) rfl rfl Try.func13 (by kernel_rfl) rfl #[.int .i64 (-7), .int .i64 2] rfl (by (try simp only [List.map_toArray, List.map_cons, List.map_nil]); first | done | rfl | (simp only [List.length_drop, List.length_take]; rfl)) ?_; (with_reducible refine (rect_CeilDiv.calls (-7) 2 t172 _ A16.out).mono ?_); rintro e w' ⟨rfl, ⟨nd, rfl⟩⟩; refine ⟨_, rfl, ?_⟩))
      go_meet
      case rel => exact ⟨_, (true), (by first | rfl | (simp; done) | (simp [*]; done)), H', ⟨by first | omega | exact Nat.le_refl _⟩, ⟨by (with_reducible repeat (first | apply Kd.R_alloc | apply Kd.R_drewN | apply Kd.R_drew)); exact Kd.R_mono HO171.out (fun _ hk => hk.2)⟩, ⟨by (with_reducible repeat (first | refine blk_drewN ?_ _ | refine blk_drew ?_ | refine blk_alloc ?_ _)); exact BK152.out⟩, ⟨by repeat (first | (with_reducible first | exact HB.out | apply below_alloc | apply pw_below_drewN | apply below_drew1 | refine below_set ?_ GE152.out) | exact HB.out)⟩⟩
  case rest =>
    clear HC6
    try clear c1
    try clear c2
    try clear p2
    try clear c3
    try clear c4
    try clear c13
    try clear c17
    try clear c17b0
    try clear c17b1
    try clear c19
    try clear c19b0
    try clear c19b1
    try clear c22
    try clear c25
    try clear c28
    try clear c38
    try clear hcz42_0
    try clear hcz42_1
    try clear hcz42_2
    try clear hcz42_3
    try clear hcz9_0
    try clear hcz9_1
    try clear hcz9_2
    try clear hcz9_3
    try clear hfz42_0
    try clear hfz42_1
    try clear hfz42_2
    try clear hfz42_3
    try clear hfz9_0
    try clear hfz9_1
    try clear hfz9_2
    try clear hfz9_3
    obtain ⟨kq, x33_5, rfl, HA, HJ5, HO_2, BK152, HB⟩ := hcut
    cases kq with
    | zero => exact absurd HA.out (by simp [waveletlaw01_exampleHolds.j0])
    | succ kj5 =>
      have H := HA.out
      clear HA
      simp only [waveletlaw01_exampleHolds.j0] at H
      by_cases c50 : x33_5 = true
      · subst c50
        have H1 : (some false) = some r := by rw [if_pos rfl] at H; exact H
        clear H
        have H := H1
        clear H1
        obtain rfl := Option.some.inj H
        go_wp2
        go_ret
        exact ⟨by first | rfl | (simp [errW_none, errW_some] <;> rfl) | (simp [*, errW_none, errW_some] <;> rfl), by repeat (first | (with_reducible first | exact HB.out | apply below_alloc | apply pw_below_drewN | apply below_drew1 | refine below_set ?_ GE152.out) | exact HB.out)⟩
      · replace c50 := Bool.eq_false_iff.mpr c50
        subst c50
        have H1 : ((waveletlaw01_of.f 0 0 4 4).bind fun bt190 => ((waveletlaw01_of.f 2 1 9 3).bind fun bt194 => ((rect_Intersect.f bt190.1 bt190.2.1 bt190.2.2.1 bt190.2.2.2 bt194.1 bt194.2.1 bt194.2.2.1 bt194.2.2.2).bind fun bt198 => ((waveletlaw01_of.f 2 1 4 3).bind fun bt202 => (if (!(bt198.1 == bt202.1) || (!(bt198.2.1 == bt202.2.1) || (!(bt198.2.2.1 == bt202.2.2.1) || (!(bt198.2.2.2 == bt202.2.2.2))))) = true then (waveletlaw01_exampleHolds.j1 kj5 y169 true t148 t149 t150 t151) else ((waveletlaw01_of.f 3 3 4 4).bind fun bt206 => ((waveletlaw01_of.f 7 7 7 9).bind fun bt210 => ((waveletlaw01_of.f 1 5 2 6).bind fun bt214 => ((rect_Bound.f kj5 (([(⟨bt206.1, bt206.2.1, bt206.2.2.1, bt206.2.2.2⟩ : S26), (⟨bt210.1, bt210.2.1, bt210.2.2.1, bt210.2.2.2⟩ : S26), (⟨bt214.1, bt214.2.1, bt214.2.2.1, bt214.2.2.2⟩ : S26)] : List (S26)))).bind fun bt221 => ((waveletlaw01_of.f 1 3 4 6).bind fun bt225 => (if (!(bt221.1 == bt225.1) || (!(bt221.2.1 == bt225.2.1) || (!(bt221.2.2.1 == bt225.2.2.1) || (!(bt221.2.2.2 == bt225.2.2.2))))) = true then (waveletlaw01_exampleHolds.j1 kj5 y169 true t148 t149 t150 t151) else ((waveletlaw01_of.f 9 9 9 9).bind fun bt229 => ((rect_Contains.f t148 t149 t150 t151 bt229.1 bt229.2.1 bt229.2.2.1 bt229.2.2.2).bind fun t233 => (waveletlaw01_exampleHolds.j1 kj5 y169 (!t233) t148 t149 t150 t151)))))))))))))) = some r := by rw [if_neg (show ¬ (false = true) by decide)] at H; exact H
        clear H
        have H := H1
        clear H1
        have HC51 := Aside0.mk H
        clear H
        go_upto_region 5 with (fail)
        go_cut [53] (fun v53 wc => ∃ (kq : Nat) (x53_50 : Bool), v53 = .bool x53_50 ∧ Aside0 (waveletlaw01_exampleHolds.j1 kq y169 x53_50 t148 t149 t150 t151 = some r) ∧ Aside0 (kq ≤ kj5) ∧ Aside0 (Kd.R k26 26 wc w.heap.size (fun k_ => k_ ≠ gb152) v170 y169) ∧ Aside0 (wc.heap[gb152]? = some (.cells #[.int .i64 t148, .int .i64 t149, .int .i64 t150, .int .i64 t151] 26 (0, 0))) ∧ Aside0 (Below w.heap.size w wc))
        case first =>
          have H := HC51.out
          clear HC51
          replace H := Option.bind_eq_some_iff.mp H
          obtain ⟨⟨t190, t191, t192, t193⟩, A520, H⟩ := H
          replace H : ((waveletlaw01_of.f 2 1 9 3).bind fun bt194 => ((rect_Intersect.f t190 t191 t192 t193 bt194.1 bt194.2.1 bt194.2.2.1 bt194.2.2.2).bind fun bt198 => ((waveletlaw01_of.f 2 1 4 3).bind fun bt202 => (if (!(bt198.1 == bt202.1) || (!(bt198.2.1 == bt202.2.1) || (!(bt198.2.2.1 == bt202.2.2.1) || (!(bt198.2.2.2 == bt202.2.2.2))))) = true then (waveletlaw01_exampleHolds.j1 kj5 y169 true t148 t149 t150 t151) else ((waveletlaw01_of.f 3 3 4 4).bind fun bt206 => ((waveletlaw01_of.f 7 7 7 9).bind fun bt210 => ((waveletlaw01_of.f 1 5 2 6).bind fun bt214 => ((rect_Bound.f kj5 (([(⟨bt206.1, bt206.2.1, bt206.2.2.1, bt206.2.2.2⟩ : S26), (⟨bt210.1, bt210.2.1, bt210.2.2.1, bt210.2.2.2⟩ : S26), (⟨bt214.1, bt214.2.1, bt214.2.2.1, bt214.2.2.2⟩ : S26)] : List (S26)))).bind fun bt221 => ((waveletlaw01_of.f 1 3 4 6).bind fun bt225 => (if (!(bt221.1 == bt225.1) || (!(bt221.2.1 == bt225.2.1) || (!(bt221.2.2.1 == bt225.2.2.1) || (!(bt221.2.2.2 == bt225.2.2.2))))) = true then (waveletlaw01_exampleHolds.j1 kj5 y169 true t148 t149 t150 t151) else ((waveletlaw01_of.f 9 9 9 9).bind fun bt229 => ((rect_Contains.f t148 t149 t150 t151 bt229.1 bt229.2.1 bt229.2.2.1 bt229.2.2.2).bind fun t233 => (waveletlaw01_exampleHolds.j1 kj5 y169 (!t233) t148 t149 t150 t151))))))))))))) = some r := H
          have A52 := Aside0.mk A520
          clear A520
          replace H := Option.bind_eq_some_iff.mp H
          obtain ⟨⟨t194, t195, t196, t197⟩, A530, H⟩ := H
          replace H : ((rect_Intersect.f t190 t191 t192 t193 t194 t195 t196 t197).bind fun bt198 => ((waveletlaw01_of.f 2 1 4 3).bind fun bt202 => (if (!(bt198.1 == bt202.1) || (!(bt198.2.1 == bt202.2.1) || (!(bt198.2.2.1 == bt202.2.2.1) || (!(bt198.2.2.2 == bt202.2.2.2))))) = true then (waveletlaw01_exampleHolds.j1 kj5 y169 true t148 t149 t150 t151) else ((waveletlaw01_of.f 3 3 4 4).bind fun bt206 => ((waveletlaw01_of.f 7 7 7 9).bind fun bt210 => ((waveletlaw01_of.f 1 5 2 6).bind fun bt214 => ((rect_Bound.f kj5 (([(⟨bt206.1, bt206.2.1, bt206.2.2.1, bt206.2.2.2⟩ : S26), (⟨bt210.1, bt210.2.1, bt210.2.2.1, bt210.2.2.2⟩ : S26), (⟨bt214.1, bt214.2.1, bt214.2.2.1, bt214.2.2.2⟩ : S26)] : List (S26)))).bind fun bt221 => ((waveletlaw01_of.f 1 3 4 6).bind fun bt225 => (if (!(bt221.1 == bt225.1) || (!(bt221.2.1 == bt225.2.1) || (!(bt221.2.2.1 == bt225.2.2.1) || (!(bt221.2.2.2 == bt225.2.2.2))))) = true then (waveletlaw01_exampleHolds.j1 kj5 y169 true t148 t149 t150 t151) else ((waveletlaw01_of.f 9 9 9 9).bind fun bt229 => ((rect_Contains.f t148 t149 t150 t151 bt229.1 bt229.2.1 bt229.2.2.1 bt229.2.2.2).bind fun t233 => (waveletlaw01_exampleHolds.j1 kj5 y169 (!t233) t148 t149 t150 t151)))))))))))) = some r := H
          have A53 := Aside0.mk A530
          clear A530
          replace H := Option.bind_eq_some_iff.mp H
          obtain ⟨⟨t198, t199, t200, t201⟩, A540, H⟩ := H
          replace H : ((waveletlaw01_of.f 2 1 4 3).bind fun bt202 => (if (!(t198 == bt202.1) || (!(t199 == bt202.2.1) || (!(t200 == bt202.2.2.1) || (!(t201 == bt202.2.2.2))))) = true then (waveletlaw01_exampleHolds.j1 kj5 y169 true t148 t149 t150 t151) else ((waveletlaw01_of.f 3 3 4 4).bind fun bt206 => ((waveletlaw01_of.f 7 7 7 9).bind fun bt210 => ((waveletlaw01_of.f 1 5 2 6).bind fun bt214 => ((rect_Bound.f kj5 (([(⟨bt206.1, bt206.2.1, bt206.2.2.1, bt206.2.2.2⟩ : S26), (⟨bt210.1, bt210.2.1, bt210.2.2.1, bt210.2.2.2⟩ : S26), (⟨bt214.1, bt214.2.1, bt214.2.2.1, bt214.2.2.2⟩ : S26)] : List (S26)))).bind fun bt221 => ((waveletlaw01_of.f 1 3 4 6).bind fun bt225 => (if (!(bt221.1 == bt225.1) || (!(bt221.2.1 == bt225.2.1) || (!(bt221.2.2.1 == bt225.2.2.1) || (!(bt221.2.2.2 == bt225.2.2.2))))) = true then (waveletlaw01_exampleHolds.j1 kj5 y169 true t148 t149 t150 t151) else ((waveletlaw01_of.f 9 9 9 9).bind fun bt229 => ((rect_Contains.f t148 t149 t150 t151 bt229.1 bt229.2.1 bt229.2.2.1 bt229.2.2.2).bind fun t233 => (waveletlaw01_exampleHolds.j1 kj5 y169 (!t233) t148 t149 t150 t151))))))))))) = some r := H
          have A54 := Aside0.mk A540
          clear A540
          replace H := Option.bind_eq_some_iff.mp H
          obtain ⟨⟨t202, t203, t204, t205⟩, A550, H⟩ := H
          replace H : (if (!(t198 == t202) || (!(t199 == t203) || (!(t200 == t204) || (!(t201 == t205))))) = true then (waveletlaw01_exampleHolds.j1 kj5 y169 true t148 t149 t150 t151) else ((waveletlaw01_of.f 3 3 4 4).bind fun bt206 => ((waveletlaw01_of.f 7 7 7 9).bind fun bt210 => ((waveletlaw01_of.f 1 5 2 6).bind fun bt214 => ((rect_Bound.f kj5 (([(⟨bt206.1, bt206.2.1, bt206.2.2.1, bt206.2.2.2⟩ : S26), (⟨bt210.1, bt210.2.1, bt210.2.2.1, bt210.2.2.2⟩ : S26), (⟨bt214.1, bt214.2.1, bt214.2.2.1, bt214.2.2.2⟩ : S26)] : List (S26)))).bind fun bt221 => ((waveletlaw01_of.f 1 3 4 6).bind fun bt225 => (if (!(bt221.1 == bt225.1) || (!(bt221.2.1 == bt225.2.1) || (!(bt221.2.2.1 == bt225.2.2.1) || (!(bt221.2.2.2 == bt225.2.2.2))))) = true then (waveletlaw01_exampleHolds.j1 kj5 y169 true t148 t149 t150 t151) else ((waveletlaw01_of.f 9 9 9 9).bind fun bt229 => ((rect_Contains.f t148 t149 t150 t151 bt229.1 bt229.2.1 bt229.2.2.1 bt229.2.2.2).bind fun t233 => (waveletlaw01_exampleHolds.j1 kj5 y169 (!t233) t148 t149 t150 t151)))))))))) = some r := H
          have A55 := Aside0.mk A550
          clear A550
          by_cases c56 : (!(t198 == t202) || (!(t199 == t203) || (!(t200 == t204) || (!(t201 == t205))))) = true
          · rw [if_pos c56] at H
            have c56b0 : (!(t198 == t202) || (!(t199 == t203) || (!(t200 == t204) || (!(t201 == t205))))) = true := c56
            clear c56
            (first | rw [c56b0] | (simp only [i64_w, i32_w]; rw [c56b0]) | skip)
            have H' := Aside0.mk H
            clear H
            try go_wp2
            have n0_ := Aside0.mk (Kd.R_drew HO_2.out)
            have n1_ := Aside0.mk (blk_drew BK152.out)
            have n2_ := Aside0.mk (below_drew1 HB.out)
            clear HO_2
            clear BK152
            clear HB
            have HO_2 := n0_
            have BK152 := n1_
            have HB := n2_
            clear n0_ n1_ n2_
            refine start_ (n := 20) (S := fun w' => True) (ds := []) #[false, false, false, false, false, false, false, false, false, false, false, false, false, false, false, false, false, false, false, false] (by kernel_rfl) rfl rfl trivial (fun hHeld => ?_); refine with_tabW waveletlaw01_exampleHolds.tab5 waveletlaw01_exampleHolds.bits5 (fun HT_ HW_ => ?_)
            generalize wc.drew = w57 at HO_2 BK152 HB hHeld ⊢
            refine one_ (i := 0) (N := some 34) #[true, false, false, false, false, false, false, false, false, false, false, false, false, false, false, false, false, false, false, false] rfl rfl (one_of HT_.out (by kernel_rfl)) (by decide) (fun K hK => ?_)
            refine goes_ Try.func38 (by kernel_rfl) rfl #[.int .i64 0, .int .i64 0, .int .i64 4, .int .i64 4] (by rfl) rfl rfl (by (try simp only [List.map_toArray, List.map_cons, List.map_nil]); first | done | rfl | (simp only [List.length_drop, List.length_take]; rfl)) ?_
            with_reducible refine (waveletlaw01_of.calls 0 0 4 4 t190 t191 t192 t193 _ A52.out).mono ?_
            rintro e w58 ⟨rfl, hb⟩
            refine ⟨_, rfl, ?_⟩
            have n0_ := Aside0.mk (Kd.R_below (by (with_reducible repeat (first | apply Kd.R_alloc | apply Kd.R_drewN | apply Kd.R_drew)); exact HO_2.out) hb)
            have n1_ := Aside0.mk (blk_below (g := gb152) (o := .cells #[.int .i64 t148, .int .i64 t149, .int .i64 t150, .int .i64 t151] 26 (0, 0)) (by (with_reducible repeat (first | refine blk_drewN ?_ _ | refine blk_drew ?_ | refine blk_alloc ?_ _)); exact BK152.out) hb)
            have n2_ := Aside0.mk (below_step (by repeat (first | (with_reducible first | exact HB.out | apply below_alloc | apply pw_below_drewN | apply below_drew1 | refine below_set ?_ GE152.out) | exact HB.out)) hb)
            clear HO_2
            clear BK152
            clear HB
            have HO_2 := n0_
            have BK152 := n1_
            have HB := n2_
            clear n0_ n1_ n2_
            (try clear hb)
            (try clear hb2)
            (try clear hk)
            (try clear hi)
            refine hK.out _ _ trivial (fun hHeld => ?_)
            clear hK K
            refine norm_ (a' := ?_) ?_ ?_
            rotate_left
            · show Act.put _ (some 34) _ = _
              simp only [Act.put, List.setIfInBounds_toArray, List.set_cons_zero, List.set_cons_succ, i64_w, i32_w]
              rfl
            refine one_ (i := 1) (N := some 35) #[true, true, false, false, false, false, false, false, false, false, false, false, false, false, false, false, false, false, false, false] rfl rfl (one_of HT_.out (by kernel_rfl)) (by decide) (fun K hK => ?_)
            refine goes_ Try.func38 (by kernel_rfl) rfl #[.int .i64 2, .int .i64 1, .int .i64 9, .int .i64 3] (by rfl) rfl rfl (by (try simp only [List.map_toArray, List.map_cons, List.map_nil]); first | done | rfl | (simp only [List.length_drop, List.length_take]; rfl)) ?_
            with_reducible refine (waveletlaw01_of.calls 2 1 9 3 t194 t195 t196 t197 _ A53.out).mono ?_
            rintro e w59 ⟨rfl, hb⟩
            refine ⟨_, rfl, ?_⟩
            have n0_ := Aside0.mk (Kd.R_below (by (with_reducible repeat (first | apply Kd.R_alloc | apply Kd.R_drewN | apply Kd.R_drew)); exact HO_2.out) hb)
            have n1_ := Aside0.mk (blk_below (g := gb152) (o := .cells #[.int .i64 t148, .int .i64 t149, .int .i64 t150, .int .i64 t151] 26 (0, 0)) (by (with_reducible repeat (first | refine blk_drewN ?_ _ | refine blk_drew ?_ | refine blk_alloc ?_ _)); exact BK152.out) hb)
            have n2_ := Aside0.mk (below_step (by repeat (first | (with_reducible first | exact HB.out | apply below_alloc | apply pw_below_drewN | apply below_drew1 | refine below_set ?_ GE152.out) | exact HB.out)) hb)
            clear HO_2
            clear BK152
            clear HB
            have HO_2 := n0_
            have BK152 := n1_
            have HB := n2_
            clear n0_ n1_ n2_
            (try clear hb)
            (try clear hb2)
            (try clear hk)
            (try clear hi)
            refine hK.out _ _ trivial (fun hHeld => ?_)
            clear hK K
            refine norm_ (a' := ?_) ?_ ?_
            rotate_left
            · show Act.put _ (some 35) _ = _
              simp only [Act.put, List.setIfInBounds_toArray, List.set_cons_zero, List.set_cons_succ, i64_w, i32_w]
              rfl
            refine one_ (i := 2) (N := some 36) #[true, true, true, false, false, false, false, false, false, false, false, false, false, false, false, false, false, false, false, false] rfl rfl (one_of HT_.out (by kernel_rfl)) (by decide) (fun K hK => ?_)
            refine goes_ Try.func28 (by kernel_rfl) rfl #[.agg #[.int .i64 t190, .int .i64 t191, .int .i64 t192, .int .i64 t193], .agg #[.int .i64 t194, .int .i64 t195, .int .i64 t196, .int .i64 t197]] (by rfl) rfl rfl (by (try simp only [List.map_toArray, List.map_cons, List.map_nil]); first | done | rfl | (simp only [List.length_drop, List.length_take]; rfl)) ?_
            with_reducible refine (rect_Intersect.calls t190 t191 t192 t193 t194 t195 t196 t197 t198 t199 t200 t201 _ A54.out).mono ?_
            rintro e w60 ⟨rfl, hb⟩
            refine ⟨_, rfl, ?_⟩
            have n0_ := Aside0.mk (Kd.R_below (by (with_reducible repeat (first | apply Kd.R_alloc | apply Kd.R_drewN | apply Kd.R_drew)); exact HO_2.out) hb)
            have n1_ := Aside0.mk (blk_below (g := gb152) (o := .cells #[.int .i64 t148, .int .i64 t149, .int .i64 t150, .int .i64 t151] 26 (0, 0)) (by (with_reducible repeat (first | refine blk_drewN ?_ _ | refine blk_drew ?_ | refine blk_alloc ?_ _)); exact BK152.out) hb)
            have n2_ := Aside0.mk (below_step (by repeat (first | (with_reducible first | exact HB.out | apply below_alloc | apply pw_below_drewN | apply below_drew1 | refine below_set ?_ GE152.out) | exact HB.out)) hb)
            clear HO_2
            clear BK152
            clear HB
            have HO_2 := n0_
            have BK152 := n1_
            have HB := n2_
            clear n0_ n1_ n2_
            (try clear hb)
            (try clear hb2)
            (try clear hk)
            (try clear hi)
            refine hK.out _ _ trivial (fun hHeld => ?_)
            clear hK K
            refine norm_ (a' := ?_) ?_ ?_
            rotate_left
            · show Act.put _ (some 36) _ = _
              simp only [Act.put, List.setIfInBounds_toArray, List.set_cons_zero, List.set_cons_succ, i64_w, i32_w]
              rfl
            refine one_ (i := 3) (N := some 37) #[true, true, true, true, false, false, false, false, false, false, false, false, false, false, false, false, false, false, false, false] rfl rfl (one_of HT_.out (by kernel_rfl)) (by decide) (fun K hK => ?_)
            refine goes_ Try.func38 (by kernel_rfl) rfl #[.int .i64 2, .int .i64 1, .int .i64 4, .int .i64 3] (by rfl) rfl rfl (by (try simp only [List.map_toArray, List.map_cons, List.map_nil]); first | done | rfl | (simp only [List.length_drop, List.length_take]; rfl)) ?_
            with_reducible refine (waveletlaw01_of.calls 2 1 4 3 t202 t203 t204 t205 _ A55.out).mono ?_
            rintro e w61 ⟨rfl, hb⟩
            refine ⟨_, rfl, ?_⟩
            have n0_ := Aside0.mk (Kd.R_below (by (with_reducible repeat (first | apply Kd.R_alloc | apply Kd.R_drewN | apply Kd.R_drew)); exact HO_2.out) hb)
            have n1_ := Aside0.mk (blk_below (g := gb152) (o := .cells #[.int .i64 t148, .int .i64 t149, .int .i64 t150, .int .i64 t151] 26 (0, 0)) (by (with_reducible repeat (first | refine blk_drewN ?_ _ | refine blk_drew ?_ | refine blk_alloc ?_ _)); exact BK152.out) hb)
            have n2_ := Aside0.mk (below_step (by repeat (first | (with_reducible first | exact HB.out | apply below_alloc | apply pw_below_drewN | apply below_drew1 | refine below_set ?_ GE152.out) | exact HB.out)) hb)
            clear HO_2
            clear BK152
            clear HB
            have HO_2 := n0_
            have BK152 := n1_
            have HB := n2_
            clear n0_ n1_ n2_
            (try clear hb)
            (try clear hb2)
            (try clear hk)
            (try clear hi)
            refine hK.out _ _ trivial (fun hHeld => ?_)
            clear hK K
            refine norm_ (a' := ?_) ?_ ?_
            rotate_left
            · show Act.put _ (some 37) _ = _
              simp only [Act.put, List.setIfInBounds_toArray, List.set_cons_zero, List.set_cons_succ, i64_w, i32_w]
              rfl
            refine pure_ (i := 4) (N := some 38) (v := ?_) (a' := ?_) #[true, true, true, true, true, false, false, false, false, false, false, false, false, false, false, false, false, false, false, false] rfl rfl (any_of HT_.out (by kernel_rfl)) (fun _ _ _ h => h) (Or.inl ⟨by rfl, ?_⟩) ?_ ?_
            rotate_left
            · intro w'
              go_simp
              with_reducible rfl
            rotate_left
            · simp only [Act.put, List.setIfInBounds_toArray, List.set_cons_zero, List.set_cons_succ, i64_w, i32_w]
              rfl
            refine pure_ (i := 5) (N := some 39) (v := ?_) (a' := ?_) #[true, true, true, true, true, true, false, false, false, false, false, false, false, false, false, false, false, false, false, false] rfl rfl (any_of HT_.out (by kernel_rfl)) (fun _ _ _ h => h) (Or.inl ⟨by rfl, ?_⟩) ?_ ?_
            rotate_left
            · intro w'
              go_simp
              with_reducible rfl
            rotate_left
            · simp only [Act.put, List.setIfInBounds_toArray, List.set_cons_zero, List.set_cons_succ, i64_w, i32_w]
              rfl
            refine pure_ (i := 6) (N := some 40) (v := undef) (a' := ?_) #[true, true, true, true, true, true, true, false, false, false, false, false, false, false, false, false, false, false, false, false] rfl rfl (any_of HT_.out (by kernel_rfl)) (fun _ _ _ h => h) (Or.inr ⟨by rfl, rfl⟩) ?_ ?_
            rotate_left
            · simp only [Act.put, List.setIfInBounds_toArray, List.set_cons_zero, List.set_cons_succ, i64_w, i32_w]
              rfl
            refine pure_ (i := 7) (N := some 41) (v := undef) (a' := ?_) #[true, true, true, true, true, true, true, true, false, false, false, false, false, false, false, false, false, false, false, false] rfl rfl (any_of HT_.out (by kernel_rfl)) (fun _ _ _ h => h) (Or.inr ⟨by rfl, rfl⟩) ?_ ?_
            rotate_left
            · simp only [Act.put, List.setIfInBounds_toArray, List.set_cons_zero, List.set_cons_succ, i64_w, i32_w]
              rfl
            refine pure_ (i := 8) (N := some 42) (v := undef) (a' := ?_) #[true, true, true, true, true, true, true, true, true, false, false, false, false, false, false, false, false, false, false, false] rfl rfl (any_of HT_.out (by kernel_rfl)) (fun _ _ _ h => h) (Or.inr ⟨by rfl, rfl⟩) ?_ ?_
            rotate_left
            · simp only [Act.put, List.setIfInBounds_toArray, List.set_cons_zero, List.set_cons_succ, i64_w, i32_w]
              rfl
            refine pure_ (i := 9) (N := some 43) (v := undef) (a' := ?_) #[true, true, true, true, true, true, true, true, true, true, false, false, false, false, false, false, false, false, false, false] rfl rfl (any_of HT_.out (by kernel_rfl)) (fun _ _ _ h => h) (Or.inr ⟨by rfl, rfl⟩) ?_ ?_
            rotate_left
            · simp only [Act.put, List.setIfInBounds_toArray, List.set_cons_zero, List.set_cons_succ, i64_w, i32_w]
              rfl
            refine pure_ (i := 10) (N := some 44) (v := undef) (a' := ?_) #[true, true, true, true, true, true, true, true, true, true, true, false, false, false, false, false, false, false, false, false] rfl rfl (any_of HT_.out (by kernel_rfl)) (fun _ _ _ h => h) (Or.inr ⟨by rfl, rfl⟩) ?_ ?_
            rotate_left
            · simp only [Act.put, List.setIfInBounds_toArray, List.set_cons_zero, List.set_cons_succ, i64_w, i32_w]
              rfl
            refine pure_ (i := 11) (N := some 45) (v := undef) (a' := ?_) #[true, true, true, true, true, true, true, true, true, true, true, true, false, false, false, false, false, false, false, false] rfl rfl (any_of HT_.out (by kernel_rfl)) (fun _ _ _ h => h) (Or.inr ⟨by rfl, rfl⟩) ?_ ?_
            rotate_left
            · simp only [Act.put, List.setIfInBounds_toArray, List.set_cons_zero, List.set_cons_succ, i64_w, i32_w]
              rfl
            refine pure_ (i := 12) (N := some 46) (v := undef) (a' := ?_) #[true, true, true, true, true, true, true, true, true, true, true, true, true, false, false, false, false, false, false, false] rfl rfl (any_of HT_.out (by kernel_rfl)) (fun _ _ _ h => h) (Or.inr ⟨by rfl, rfl⟩) ?_ ?_
            rotate_left
            · simp only [Act.put, List.setIfInBounds_toArray, List.set_cons_zero, List.set_cons_succ, i64_w, i32_w]
              rfl
            refine pure_ (i := 13) (N := some 47) (v := ?_) (a' := ?_) #[true, true, true, true, true, true, true, true, true, true, true, true, true, true, false, false, false, false, false, false] rfl rfl (any_of HT_.out (by kernel_rfl)) (fun _ _ _ h => h) (Or.inl ⟨by rfl, ?_⟩) ?_ ?_
            rotate_left
            · intro w'
              go_simp
              with_reducible rfl
            rotate_left
            · simp only [Act.put, List.setIfInBounds_toArray, List.set_cons_zero, List.set_cons_succ, i64_w, i32_w]
              rfl
            refine pure_ (i := 14) (N := some 48) (v := ?_) (a' := ?_) #[true, true, true, true, true, true, true, true, true, true, true, true, true, true, true, false, false, false, false, false] rfl rfl (any_of HT_.out (by kernel_rfl)) (fun _ _ _ h => h) (Or.inl ⟨by rfl, ?_⟩) ?_ ?_
            rotate_left
            · intro w'
              go_simp
              with_reducible rfl
            rotate_left
            · simp only [Act.put, List.setIfInBounds_toArray, List.set_cons_zero, List.set_cons_succ, i64_w, i32_w]
              rfl
            refine pure_ (i := 15) (N := some 49) (v := undef) (a' := ?_) #[true, true, true, true, true, true, true, true, true, true, true, true, true, true, true, true, false, false, false, false] rfl rfl (any_of HT_.out (by kernel_rfl)) (fun _ _ _ h => h) (Or.inr ⟨by rfl, rfl⟩) ?_ ?_
            rotate_left
            · simp only [Act.put, List.setIfInBounds_toArray, List.set_cons_zero, List.set_cons_succ, i64_w, i32_w]
              rfl
            refine pure_ (i := 16) (N := some 50) (v := undef) (a' := ?_) #[true, true, true, true, true, true, true, true, true, true, true, true, true, true, true, true, true, false, false, false] rfl rfl (any_of HT_.out (by kernel_rfl)) (fun _ _ _ h => h) (Or.inr ⟨by rfl, rfl⟩) ?_ ?_
            rotate_left
            · simp only [Act.put, List.setIfInBounds_toArray, List.set_cons_zero, List.set_cons_succ, i64_w, i32_w]
              rfl
            refine pure_ (i := 17) (N := some 51) (v := undef) (a' := ?_) #[true, true, true, true, true, true, true, true, true, true, true, true, true, true, true, true, true, true, false, false] rfl rfl (any_of HT_.out (by kernel_rfl)) (fun _ _ _ h => h) (Or.inr ⟨by rfl, rfl⟩) ?_ ?_
            rotate_left
            · simp only [Act.put, List.setIfInBounds_toArray, List.set_cons_zero, List.set_cons_succ, i64_w, i32_w]
              rfl
            refine pure_ (i := 18) (N := some 52) (v := undef) (a' := ?_) #[true, true, true, true, true, true, true, true, true, true, true, true, true, true, true, true, true, true, true, false] rfl rfl (any_of HT_.out (by kernel_rfl)) (fun _ _ _ h => h) (Or.inr ⟨by rfl, rfl⟩) ?_ ?_
            rotate_left
            · simp only [Act.put, List.setIfInBounds_toArray, List.set_cons_zero, List.set_cons_succ, i64_w, i32_w]
              rfl
            refine pure_ (i := 19) (N := some 53) (v := ?_) (a' := ?_) #[true, true, true, true, true, true, true, true, true, true, true, true, true, true, true, true, true, true, true, true] rfl rfl (any_of HT_.out (by kernel_rfl)) (fun _ _ _ h => h) (Or.inl ⟨by rfl, ?_⟩) ?_ ?_
            rotate_left
            · intro w'
              go_simp
              with_reducible rfl
            rotate_left
            · simp only [Act.put, List.setIfInBounds_toArray, List.set_cons_zero, List.set_cons_succ, i64_w, i32_w]
              rfl
            refine done_ (done_of HT_.out (by kernel_rfl)) ?_
            try go_wp2
            go_meet
            case rel => exact ⟨_, (true), (by first | rfl | (simp; done) | (simp [*]; done)), H', ⟨by have := HJ5.out; first | omega | exact Nat.le_refl _⟩, ⟨by (with_reducible repeat (first | apply Kd.R_alloc | apply Kd.R_drewN | apply Kd.R_drew)); exact HO_2.out⟩, ⟨by (with_reducible repeat (first | refine blk_drewN ?_ _ | refine blk_drew ?_ | refine blk_alloc ?_ _)); exact BK152.out⟩, ⟨by repeat (first | (with_reducible first | exact HB.out | apply below_alloc | apply pw_below_drewN | apply below_drew1 | refine below_set ?_ GE152.out) | exact HB.out)⟩⟩
          · rw [if_neg c56] at H
            have c56b0 : (!(t198 == t202) || (!(t199 == t203) || (!(t200 == t204) || (!(t201 == t205))))) = false := by simpa using c56
            clear c56
            (first | rw [c56b0] | (simp only [i64_w, i32_w]; rw [c56b0]) | skip)
            replace H := Option.bind_eq_some_iff.mp H
            obtain ⟨⟨t206, t207, t208, t209⟩, A620, H⟩ := H
            replace H : ((waveletlaw01_of.f 7 7 7 9).bind fun bt210 => ((waveletlaw01_of.f 1 5 2 6).bind fun bt214 => ((rect_Bound.f kj5 (([(⟨t206, t207, t208, t209⟩ : S26), (⟨bt210.1, bt210.2.1, bt210.2.2.1, bt210.2.2.2⟩ : S26), (⟨bt214.1, bt214.2.1, bt214.2.2.1, bt214.2.2.2⟩ : S26)] : List (S26)))).bind fun bt221 => ((waveletlaw01_of.f 1 3 4 6).bind fun bt225 => (if (!(bt221.1 == bt225.1) || (!(bt221.2.1 == bt225.2.1) || (!(bt221.2.2.1 == bt225.2.2.1) || (!(bt221.2.2.2 == bt225.2.2.2))))) = true then (waveletlaw01_exampleHolds.j1 kj5 y169 true t148 t149 t150 t151) else ((waveletlaw01_of.f 9 9 9 9).bind fun bt229 => ((rect_Contains.f t148 t149 t150 t151 bt229.1 bt229.2.1 bt229.2.2.1 bt229.2.2.2).bind fun t233 => (waveletlaw01_exampleHolds.j1 kj5 y169 (!t233) t148 t149 t150 t151)))))))) = some r := H
            have A62 := Aside0.mk A620
            clear A620
            replace H := Option.bind_eq_some_iff.mp H
            obtain ⟨⟨t210, t211, t212, t213⟩, A630, H⟩ := H
            replace H : ((waveletlaw01_of.f 1 5 2 6).bind fun bt214 => ((rect_Bound.f kj5 (([(⟨t206, t207, t208, t209⟩ : S26), (⟨t210, t211, t212, t213⟩ : S26), (⟨bt214.1, bt214.2.1, bt214.2.2.1, bt214.2.2.2⟩ : S26)] : List (S26)))).bind fun bt221 => ((waveletlaw01_of.f 1 3 4 6).bind fun bt225 => (if (!(bt221.1 == bt225.1) || (!(bt221.2.1 == bt225.2.1) || (!(bt221.2.2.1 == bt225.2.2.1) || (!(bt221.2.2.2 == bt225.2.2.2))))) = true then (waveletlaw01_exampleHolds.j1 kj5 y169 true t148 t149 t150 t151) else ((waveletlaw01_of.f 9 9 9 9).bind fun bt229 => ((rect_Contains.f t148 t149 t150 t151 bt229.1 bt229.2.1 bt229.2.2.1 bt229.2.2.2).bind fun t233 => (waveletlaw01_exampleHolds.j1 kj5 y169 (!t233) t148 t149 t150 t151))))))) = some r := H
            have A63 := Aside0.mk A630
            clear A630
            replace H := Option.bind_eq_some_iff.mp H
            obtain ⟨⟨t214, t215, t216, t217⟩, A640, H⟩ := H
            replace H : ((rect_Bound.f kj5 (([(⟨t206, t207, t208, t209⟩ : S26), (⟨t210, t211, t212, t213⟩ : S26), (⟨t214, t215, t216, t217⟩ : S26)] : List (S26)))).bind fun bt221 => ((waveletlaw01_of.f 1 3 4 6).bind fun bt225 => (if (!(bt221.1 == bt225.1) || (!(bt221.2.1 == bt225.2.1) || (!(bt221.2.2.1 == bt225.2.2.1) || (!(bt221.2.2.2 == bt225.2.2.2))))) = true then (waveletlaw01_exampleHolds.j1 kj5 y169 true t148 t149 t150 t151) else ((waveletlaw01_of.f 9 9 9 9).bind fun bt229 => ((rect_Contains.f t148 t149 t150 t151 bt229.1 bt229.2.1 bt229.2.2.1 bt229.2.2.2).bind fun t233 => (waveletlaw01_exampleHolds.j1 kj5 y169 (!t233) t148 t149 t150 t151)))))) = some r := H
            have A64 := Aside0.mk A640
            clear A640
            obtain ⟨y218, hy218⟩ : ∃ y_ : List (S26), y_ = (([(⟨t206, t207, t208, t209⟩ : S26), (⟨t210, t211, t212, t213⟩ : S26), (⟨t214, t215, t216, t217⟩ : S26)] : List (S26))) := ⟨_, rfl⟩
            replace H : ((rect_Bound.f kj5 y218).bind fun bt221 => ((waveletlaw01_of.f 1 3 4 6).bind fun bt225 => (if (!(bt221.1 == bt225.1) || (!(bt221.2.1 == bt225.2.1) || (!(bt221.2.2.1 == bt225.2.2.1) || (!(bt221.2.2.2 == bt225.2.2.2))))) = true then (waveletlaw01_exampleHolds.j1 kj5 y169 true t148 t149 t150 t151) else ((waveletlaw01_of.f 9 9 9 9).bind fun bt229 => ((rect_Contains.f t148 t149 t150 t151 bt229.1 bt229.2.1 bt229.2.2.1 bt229.2.2.2).bind fun t233 => (waveletlaw01_exampleHolds.j1 kj5 y169 (!t233) t148 t149 t150 t151)))))) = some r := by first | (rw [hy218]; with_reducible exact H) | (have H2_ := (Option.bind_some _ _).symm.trans H; rw [hy218]; with_reducible exact H2_) | (have H2_ := (Option.bind_some _ _).symm.trans H; with_reducible exact H2_) | with_reducible exact H | (rw [hy218]; exact H) | exact H
            have Ny218 := Aside0.mk hy218
            clear hy218
            replace H := Option.bind_eq_some_iff.mp H
            obtain ⟨⟨t221, t222, t223, t224⟩, A650, H⟩ := H
            replace H : ((waveletlaw01_of.f 1 3 4 6).bind fun bt225 => (if (!(t221 == bt225.1) || (!(t222 == bt225.2.1) || (!(t223 == bt225.2.2.1) || (!(t224 == bt225.2.2.2))))) = true then (waveletlaw01_exampleHolds.j1 kj5 y169 true t148 t149 t150 t151) else ((waveletlaw01_of.f 9 9 9 9).bind fun bt229 => ((rect_Contains.f t148 t149 t150 t151 bt229.1 bt229.2.1 bt229.2.2.1 bt229.2.2.2).bind fun t233 => (waveletlaw01_exampleHolds.j1 kj5 y169 (!t233) t148 t149 t150 t151))))) = some r := H
            have A65 := Aside0.mk A650
            clear A650
            replace H := Option.bind_eq_some_iff.mp H
            obtain ⟨⟨t225, t226, t227, t228⟩, A660, H⟩ := H
            replace H : (if (!(t221 == t225) || (!(t222 == t226) || (!(t223 == t227) || (!(t224 == t228))))) = true then (waveletlaw01_exampleHolds.j1 kj5 y169 true t148 t149 t150 t151) else ((waveletlaw01_of.f 9 9 9 9).bind fun bt229 => ((rect_Contains.f t148 t149 t150 t151 bt229.1 bt229.2.1 bt229.2.2.1 bt229.2.2.2).bind fun t233 => (waveletlaw01_exampleHolds.j1 kj5 y169 (!t233) t148 t149 t150 t151)))) = some r := H
            have A66 := Aside0.mk A660
            clear A660
            by_cases c67 : (!(t221 == t225) || (!(t222 == t226) || (!(t223 == t227) || (!(t224 == t228))))) = true
            · rw [if_pos c67] at H
              have c67b0 : (!(t221 == t225) || (!(t222 == t226) || (!(t223 == t227) || (!(t224 == t228))))) = true := c67
              clear c67
              have H' := Aside0.mk H
              clear H
              try go_wp2
              have n0_ := Aside0.mk (Kd.R_drew HO_2.out)
              have n1_ := Aside0.mk (blk_drew BK152.out)
              have n2_ := Aside0.mk (below_drew1 HB.out)
              clear HO_2
              clear BK152
              clear HB
              have HO_2 := n0_
              have BK152 := n1_
              have HB := n2_
              clear n0_ n1_ n2_
              refine start_ (n := 20) (S := fun w' => True) (ds := []) #[false, false, false, false, false, false, false, false, false, false, false, false, false, false, false, false, false, false, false, false] (by kernel_rfl) rfl rfl trivial (fun hHeld => ?_); refine with_tabW waveletlaw01_exampleHolds.tab5 waveletlaw01_exampleHolds.bits5 (fun HT_ HW_ => ?_)
              generalize wc.drew = w68 at HO_2 BK152 HB hHeld ⊢
              refine one_ (i := 0) (N := some 34) #[true, false, false, false, false, false, false, false, false, false, false, false, false, false, false, false, false, false, false, false] rfl rfl (one_of HT_.out (by kernel_rfl)) (by decide) (fun K hK => ?_)
              refine goes_ Try.func38 (by kernel_rfl) rfl #[.int .i64 0, .int .i64 0, .int .i64 4, .int .i64 4] (by rfl) rfl rfl (by (try simp only [List.map_toArray, List.map_cons, List.map_nil]); first | done | rfl | (simp only [List.length_drop, List.length_take]; rfl)) ?_
              with_reducible refine (waveletlaw01_of.calls 0 0 4 4 t190 t191 t192 t193 _ A52.out).mono ?_
              rintro e w69 ⟨rfl, hb⟩
              refine ⟨_, rfl, ?_⟩
              have n0_ := Aside0.mk (Kd.R_below (by (with_reducible repeat (first | apply Kd.R_alloc | apply Kd.R_drewN | apply Kd.R_drew)); exact HO_2.out) hb)
              have n1_ := Aside0.mk (blk_below (g := gb152) (o := .cells #[.int .i64 t148, .int .i64 t149, .int .i64 t150, .int .i64 t151] 26 (0, 0)) (by (with_reducible repeat (first | refine blk_drewN ?_ _ | refine blk_drew ?_ | refine blk_alloc ?_ _)); exact BK152.out) hb)
              have n2_ := Aside0.mk (below_step (by repeat (first | (with_reducible first | exact HB.out | apply below_alloc | apply pw_below_drewN | apply below_drew1 | refine below_set ?_ GE152.out) | exact HB.out)) hb)
              clear HO_2
              clear BK152
              clear HB
              have HO_2 := n0_
              have BK152 := n1_
              have HB := n2_
              clear n0_ n1_ n2_
              (try clear hb)
              (try clear hb2)
              (try clear hk)
              (try clear hi)
              refine hK.out _ _ trivial (fun hHeld => ?_)
              clear hK K
              refine norm_ (a' := ?_) ?_ ?_
              rotate_left
              · show Act.put _ (some 34) _ = _
                simp only [Act.put, List.setIfInBounds_toArray, List.set_cons_zero, List.set_cons_succ, i64_w, i32_w]
                rfl
              refine one_ (i := 1) (N := some 35) #[true, true, false, false, false, false, false, false, false, false, false, false, false, false, false, false, false, false, false, false] rfl rfl (one_of HT_.out (by kernel_rfl)) (by decide) (fun K hK => ?_)
              refine goes_ Try.func38 (by kernel_rfl) rfl #[.int .i64 2, .int .i64 1, .int .i64 9, .int .i64 3] (by rfl) rfl rfl (by (try simp only [List.map_toArray, List.map_cons, List.map_nil]); first | done | rfl | (simp only [List.length_drop, List.length_take]; rfl)) ?_
              with_reducible refine (waveletlaw01_of.calls 2 1 9 3 t194 t195 t196 t197 _ A53.out).mono ?_
              rintro e w70 ⟨rfl, hb⟩
              refine ⟨_, rfl, ?_⟩
              have n0_ := Aside0.mk (Kd.R_below (by (with_reducible repeat (first | apply Kd.R_alloc | apply Kd.R_drewN | apply Kd.R_drew)); exact HO_2.out) hb)
              have n1_ := Aside0.mk (blk_below (g := gb152) (o := .cells #[.int .i64 t148, .int .i64 t149, .int .i64 t150, .int .i64 t151] 26 (0, 0)) (by (with_reducible repeat (first | refine blk_drewN ?_ _ | refine blk_drew ?_ | refine blk_alloc ?_ _)); exact BK152.out) hb)
              have n2_ := Aside0.mk (below_step (by repeat (first | (with_reducible first | exact HB.out | apply below_alloc | apply pw_below_drewN | apply below_drew1 | refine below_set ?_ GE152.out) | exact HB.out)) hb)
              clear HO_2
              clear BK152
              clear HB
              have HO_2 := n0_
              have BK152 := n1_
              have HB := n2_
              clear n0_ n1_ n2_
              (try clear hb)
              (try clear hb2)
              (try clear hk)
              (try clear hi)
              refine hK.out _ _ trivial (fun hHeld => ?_)
              clear hK K
              refine norm_ (a' := ?_) ?_ ?_
              rotate_left
              · show Act.put _ (some 35) _ = _
                simp only [Act.put, List.setIfInBounds_toArray, List.set_cons_zero, List.set_cons_succ, i64_w, i32_w]
                rfl
              refine one_ (i := 2) (N := some 36) #[true, true, true, false, false, false, false, false, false, false, false, false, false, false, false, false, false, false, false, false] rfl rfl (one_of HT_.out (by kernel_rfl)) (by decide) (fun K hK => ?_)
              refine goes_ Try.func28 (by kernel_rfl) rfl #[.agg #[.int .i64 t190, .int .i64 t191, .int .i64 t192, .int .i64 t193], .agg #[.int .i64 t194, .int .i64 t195, .int .i64 t196, .int .i64 t197]] (by rfl) rfl rfl (by (try simp only [List.map_toArray, List.map_cons, List.map_nil]); first | done | rfl | (simp only [List.length_drop, List.length_take]; rfl)) ?_
              with_reducible refine (rect_Intersect.calls t190 t191 t192 t193 t194 t195 t196 t197 t198 t199 t200 t201 _ A54.out).mono ?_
              rintro e w71 ⟨rfl, hb⟩
              refine ⟨_, rfl, ?_⟩
              have n0_ := Aside0.mk (Kd.R_below (by (with_reducible repeat (first | apply Kd.R_alloc | apply Kd.R_drewN | apply Kd.R_drew)); exact HO_2.out) hb)
              have n1_ := Aside0.mk (blk_below (g := gb152) (o := .cells #[.int .i64 t148, .int .i64 t149, .int .i64 t150, .int .i64 t151] 26 (0, 0)) (by (with_reducible repeat (first | refine blk_drewN ?_ _ | refine blk_drew ?_ | refine blk_alloc ?_ _)); exact BK152.out) hb)
              have n2_ := Aside0.mk (below_step (by repeat (first | (with_reducible first | exact HB.out | apply below_alloc | apply pw_below_drewN | apply below_drew1 | refine below_set ?_ GE152.out) | exact HB.out)) hb)
              clear HO_2
              clear BK152
              clear HB
              have HO_2 := n0_
              have BK152 := n1_
              have HB := n2_
              clear n0_ n1_ n2_
              (try clear hb)
              (try clear hb2)
              (try clear hk)
              (try clear hi)
              refine hK.out _ _ trivial (fun hHeld => ?_)
              clear hK K
              refine norm_ (a' := ?_) ?_ ?_
              rotate_left
              · show Act.put _ (some 36) _ = _
                simp only [Act.put, List.setIfInBounds_toArray, List.set_cons_zero, List.set_cons_succ, i64_w, i32_w]
                rfl
              refine one_ (i := 3) (N := some 37) #[true, true, true, true, false, false, false, false, false, false, false, false, false, false, false, false, false, false, false, false] rfl rfl (one_of HT_.out (by kernel_rfl)) (by decide) (fun K hK => ?_)
              refine goes_ Try.func38 (by kernel_rfl) rfl #[.int .i64 2, .int .i64 1, .int .i64 4, .int .i64 3] (by rfl) rfl rfl (by (try simp only [List.map_toArray, List.map_cons, List.map_nil]); first | done | rfl | (simp only [List.length_drop, List.length_take]; rfl)) ?_
              with_reducible refine (waveletlaw01_of.calls 2 1 4 3 t202 t203 t204 t205 _ A55.out).mono ?_
              rintro e w72 ⟨rfl, hb⟩
              refine ⟨_, rfl, ?_⟩
              have n0_ := Aside0.mk (Kd.R_below (by (with_reducible repeat (first | apply Kd.R_alloc | apply Kd.R_drewN | apply Kd.R_drew)); exact HO_2.out) hb)
              have n1_ := Aside0.mk (blk_below (g := gb152) (o := .cells #[.int .i64 t148, .int .i64 t149, .int .i64 t150, .int .i64 t151] 26 (0, 0)) (by (with_reducible repeat (first | refine blk_drewN ?_ _ | refine blk_drew ?_ | refine blk_alloc ?_ _)); exact BK152.out) hb)
              have n2_ := Aside0.mk (below_step (by repeat (first | (with_reducible first | exact HB.out | apply below_alloc | apply pw_below_drewN | apply below_drew1 | refine below_set ?_ GE152.out) | exact HB.out)) hb)
              clear HO_2
              clear BK152
              clear HB
              have HO_2 := n0_
              have BK152 := n1_
              have HB := n2_
              clear n0_ n1_ n2_
              (try clear hb)
              (try clear hb2)
              (try clear hk)
              (try clear hi)
              refine hK.out _ _ trivial (fun hHeld => ?_)
              clear hK K
              refine norm_ (a' := ?_) ?_ ?_
              rotate_left
              · show Act.put _ (some 37) _ = _
                simp only [Act.put, List.setIfInBounds_toArray, List.set_cons_zero, List.set_cons_succ, i64_w, i32_w]
                rfl
              refine pure_ (i := 4) (N := some 38) (v := ?_) (a' := ?_) #[true, true, true, true, true, false, false, false, false, false, false, false, false, false, false, false, false, false, false, false] rfl rfl (any_of HT_.out (by kernel_rfl)) (fun _ _ _ h => h) (Or.inl ⟨by rfl, ?_⟩) ?_ ?_
              rotate_left
              · intro w'
                go_simp
                with_reducible rfl
              rotate_left
              · simp only [Act.put, List.setIfInBounds_toArray, List.set_cons_zero, List.set_cons_succ, i64_w, i32_w]
                rfl
              refine pure_ (i := 5) (N := some 39) (v := ?_) (a' := ?_) #[true, true, true, true, true, true, false, false, false, false, false, false, false, false, false, false, false, false, false, false] rfl rfl (any_of HT_.out (by kernel_rfl)) (fun _ _ _ h => h) (Or.inl ⟨by rfl, ?_⟩) ?_ ?_
              rotate_left
              · intro w'
                go_simp
                with_reducible rfl
              rotate_left
              · simp only [Act.put, List.setIfInBounds_toArray, List.set_cons_zero, List.set_cons_succ, i64_w, i32_w]
                rfl
              refine one_ (i := 6) (N := some 40) #[true, true, true, true, true, true, true, false, false, false, false, false, false, false, false, false, false, false, false, false] rfl rfl (one_of HT_.out (by kernel_rfl)) (by decide) (fun K hK => ?_)
              refine goes_ Try.func38 (by kernel_rfl) rfl #[.int .i64 3, .int .i64 3, .int .i64 4, .int .i64 4] (by rfl) rfl rfl (by (try simp only [List.map_toArray, List.map_cons, List.map_nil]); first | done | rfl | (simp only [List.length_drop, List.length_take]; rfl)) ?_
              with_reducible refine (waveletlaw01_of.calls 3 3 4 4 t206 t207 t208 t209 _ A62.out).mono ?_
              rintro e w73 ⟨rfl, hb⟩
              refine ⟨_, rfl, ?_⟩
              have n0_ := Aside0.mk (Kd.R_below (by (with_reducible repeat (first | apply Kd.R_alloc | apply Kd.R_drewN | apply Kd.R_drew)); exact HO_2.out) hb)
              have n1_ := Aside0.mk (blk_below (g := gb152) (o := .cells #[.int .i64 t148, .int .i64 t149, .int .i64 t150, .int .i64 t151] 26 (0, 0)) (by (with_reducible repeat (first | refine blk_drewN ?_ _ | refine blk_drew ?_ | refine blk_alloc ?_ _)); exact BK152.out) hb)
              have n2_ := Aside0.mk (below_step (by repeat (first | (with_reducible first | exact HB.out | apply below_alloc | apply pw_below_drewN | apply below_drew1 | refine below_set ?_ GE152.out) | exact HB.out)) hb)
              clear HO_2
              clear BK152
              clear HB
              have HO_2 := n0_
              have BK152 := n1_
              have HB := n2_
              clear n0_ n1_ n2_
              (try clear hb)
              (try clear hb2)
              (try clear hk)
              (try clear hi)
              refine hK.out _ _ trivial (fun hHeld => ?_)
              clear hK K
              refine norm_ (a' := ?_) ?_ ?_
              rotate_left
              · show Act.put _ (some 40) _ = _
                simp only [Act.put, List.setIfInBounds_toArray, List.set_cons_zero, List.set_cons_succ, i64_w, i32_w]
                rfl
              refine one_ (i := 7) (N := some 41) #[true, true, true, true, true, true, true, true, false, false, false, false, false, false, false, false, false, false, false, false] rfl rfl (one_of HT_.out (by kernel_rfl)) (by decide) (fun K hK => ?_)
              refine goes_ Try.func38 (by kernel_rfl) rfl #[.int .i64 7, .int .i64 7, .int .i64 7, .int .i64 9] (by rfl) rfl rfl (by (try simp only [List.map_toArray, List.map_cons, List.map_nil]); first | done | rfl | (simp only [List.length_drop, List.length_take]; rfl)) ?_
              with_reducible refine (waveletlaw01_of.calls 7 7 7 9 t210 t211 t212 t213 _ A63.out).mono ?_
              rintro e w74 ⟨rfl, hb⟩
              refine ⟨_, rfl, ?_⟩
              have n0_ := Aside0.mk (Kd.R_below (by (with_reducible repeat (first | apply Kd.R_alloc | apply Kd.R_drewN | apply Kd.R_drew)); exact HO_2.out) hb)
              have n1_ := Aside0.mk (blk_below (g := gb152) (o := .cells #[.int .i64 t148, .int .i64 t149, .int .i64 t150, .int .i64 t151] 26 (0, 0)) (by (with_reducible repeat (first | refine blk_drewN ?_ _ | refine blk_drew ?_ | refine blk_alloc ?_ _)); exact BK152.out) hb)
              have n2_ := Aside0.mk (below_step (by repeat (first | (with_reducible first | exact HB.out | apply below_alloc | apply pw_below_drewN | apply below_drew1 | refine below_set ?_ GE152.out) | exact HB.out)) hb)
              clear HO_2
              clear BK152
              clear HB
              have HO_2 := n0_
              have BK152 := n1_
              have HB := n2_
              clear n0_ n1_ n2_
              (try clear hb)
              (try clear hb2)
              (try clear hk)
              (try clear hi)
              refine hK.out _ _ trivial (fun hHeld => ?_)
              clear hK K
              refine norm_ (a' := ?_) ?_ ?_
              rotate_left
              · show Act.put _ (some 41) _ = _
                simp only [Act.put, List.setIfInBounds_toArray, List.set_cons_zero, List.set_cons_succ, i64_w, i32_w]
                rfl
              refine one_ (i := 8) (N := some 42) #[true, true, true, true, true, true, true, true, true, false, false, false, false, false, false, false, false, false, false, false] rfl rfl (one_of HT_.out (by kernel_rfl)) (by decide) (fun K hK => ?_)
              refine goes_ Try.func38 (by kernel_rfl) rfl #[.int .i64 1, .int .i64 5, .int .i64 2, .int .i64 6] (by rfl) rfl rfl (by (try simp only [List.map_toArray, List.map_cons, List.map_nil]); first | done | rfl | (simp only [List.length_drop, List.length_take]; rfl)) ?_
              with_reducible refine (waveletlaw01_of.calls 1 5 2 6 t214 t215 t216 t217 _ A64.out).mono ?_
              rintro e w75 ⟨rfl, hb⟩
              refine ⟨_, rfl, ?_⟩
              have n0_ := Aside0.mk (Kd.R_below (by (with_reducible repeat (first | apply Kd.R_alloc | apply Kd.R_drewN | apply Kd.R_drew)); exact HO_2.out) hb)
              have n1_ := Aside0.mk (blk_below (g := gb152) (o := .cells #[.int .i64 t148, .int .i64 t149, .int .i64 t150, .int .i64 t151] 26 (0, 0)) (by (with_reducible repeat (first | refine blk_drewN ?_ _ | refine blk_drew ?_ | refine blk_alloc ?_ _)); exact BK152.out) hb)
              have n2_ := Aside0.mk (below_step (by repeat (first | (with_reducible first | exact HB.out | apply below_alloc | apply pw_below_drewN | apply below_drew1 | refine below_set ?_ GE152.out) | exact HB.out)) hb)
              clear HO_2
              clear BK152
              clear HB
              have HO_2 := n0_
              have BK152 := n1_
              have HB := n2_
              clear n0_ n1_ n2_
              (try clear hb)
              (try clear hb2)
              (try clear hk)
              (try clear hi)
              refine hK.out _ _ trivial (fun hHeld => ?_)
              clear hK K
              refine norm_ (a' := ?_) ?_ ?_
              rotate_left
              · show Act.put _ (some 42) _ = _
                simp only [Act.put, List.setIfInBounds_toArray, List.set_cons_zero, List.set_cons_succ, i64_w, i32_w]
                rfl
              refine one_ (i := 9) (N := some 43) #[true, true, true, true, true, true, true, true, true, true, false, false, false, false, false, false, false, false, false, false] rfl rfl (one_of HT_.out (by kernel_rfl)) (by decide) (fun K hK => ?_)
              refine Kd.R_lit_step k26 _ 26 ?hg (N := 43) ?hd (xs := ([(⟨t206, t207, t208, t209⟩ : S26), (⟨t210, t211, t212, t213⟩ : S26), (⟨t214, t215, t216, t217⟩ : S26)] : List (S26))) (inner := [.int .i64 t206, .int .i64 t207, .int .i64 t208, .int .i64 t209, .int .i64 t210, .int .i64 t211, .int .i64 t212, .int .i64 t213, .int .i64 t214, .int .i64 t215, .int .i64 t216, .int .i64 t217]) (ok := fun _ => True) (okp := fun _ => True) ?hr ?hp (fun _ hk => hk) trivial (Below.refl _ _) (Nat.le_refl _) (by simp) ?_; (case hd => rfl); (case hg => rfl); (case hr => first | (go_simp; done) | (go_simp; rfl)); (case hp => exact (Reps.c4 (show Kd.M k26 _ _ _ (⟨t206, t207, t208, t209⟩ : S26) [.int .i64 t206, .int .i64 t207, .int .i64 t208, .int .i64 t209] from (k26_mkM _ _ _ (⟨t206, t207, t208, t209⟩ : S26) )) (Reps.c4 (show Kd.M k26 _ _ _ (⟨t210, t211, t212, t213⟩ : S26) [.int .i64 t210, .int .i64 t211, .int .i64 t212, .int .i64 t213] from (k26_mkM _ _ _ (⟨t210, t211, t212, t213⟩ : S26) )) (Reps.c4 (show Kd.M k26 _ _ _ (⟨t214, t215, t216, t217⟩ : S26) [.int .i64 t214, .int .i64 t215, .int .i64 t216, .int .i64 t217] from (k26_mkM _ _ _ (⟨t214, t215, t216, t217⟩ : S26) )) (Reps.none _ _)))))
              intro v219 w76 ho77 hb hg_ hnew_
              clear hg_ hnew_
              (first | rw [← Ny218.out] at ho77 | (simp only [Int.reduceToNat] at ho77; rw [← Ny218.out] at ho77))
              have n0_ := Aside0.mk (Kd.R_elder' (by (with_reducible repeat (first | apply Kd.R_alloc | apply Kd.R_drewN | apply Kd.R_drew)); exact HO_2.out) (Kd.R_base ho77) hb)
              have n1_ := Aside0.mk (Kd.R_lower (Kd.R_newB (Kd.R_new' ho77 (Kd.R_lt (by (with_reducible repeat (first | apply Kd.R_alloc | apply Kd.R_drewN | apply Kd.R_drew)); exact HO_2.out))) (g := gb152) (o := .cells #[.int .i64 t148, .int .i64 t149, .int .i64 t150, .int .i64 t151] 26 (0, 0)) (by (with_reducible repeat (first | refine blk_drewN ?_ _ | refine blk_drew ?_ | refine blk_alloc ?_ _)); exact BK152.out)) (below_size (by repeat (first | (with_reducible first | exact HB.out | apply below_alloc | apply pw_below_drewN | apply below_drew1 | refine below_set ?_ GE152.out) | exact HB.out))))
              have n2_ := Aside0.mk (blk_below (g := gb152) (o := .cells #[.int .i64 t148, .int .i64 t149, .int .i64 t150, .int .i64 t151] 26 (0, 0)) (by (with_reducible repeat (first | refine blk_drewN ?_ _ | refine blk_drew ?_ | refine blk_alloc ?_ _)); exact BK152.out) hb)
              have n3_ := Aside0.mk (below_step (by repeat (first | (with_reducible first | exact HB.out | apply below_alloc | apply pw_below_drewN | apply below_drew1 | refine below_set ?_ GE152.out) | exact HB.out)) hb)
              clear HO_2
              clear BK152
              clear HB
              have HO_2 := n0_
              have HO220 := n1_
              have BK152 := n2_
              have HB := n3_
              clear n0_ n1_ n2_ n3_
              clear hb ho77
              obtain ⟨Ao78, co78, eo78⟩ := Kd.R_slice HO220.out
              (first | subst eo78 | (injection eo78 with f1_ f2_ f3_; have f4_ := f1_.symm; have f5_ := f3_.symm; clear f1_ f2_ f3_; subst f4_; subst f5_))
              refine hK.out _ _ trivial (fun hHeld => ?_)
              clear hK K
              refine norm_ (a' := ?_) ?_ ?_
              rotate_left
              · show Act.put _ (some 43) _ = _
                simp only [Act.put, List.setIfInBounds_toArray, List.set_cons_zero, List.set_cons_succ, i64_w, i32_w]
                rfl
              refine one_ (i := 10) (N := some 44) #[true, true, true, true, true, true, true, true, true, true, true, false, false, false, false, false, false, false, false, false] rfl rfl (one_of HT_.out (by kernel_rfl)) (by decide) (fun K hK => ?_)
              refine goes_ Try.func30 (by kernel_rfl) rfl #[.slice Ao78 y218.length co78] (by rfl) rfl rfl (by (try simp only [List.map_toArray, List.map_cons, List.map_nil]); first | done | rfl | (simp only [List.length_drop, List.length_take]; rfl)) ?_
              with_reducible refine (rect_Bound.calls kj5 _ _ y218 t221 t222 t223 t224 _ ?side1 ?side2 A65.out).mono ?_
              (case side1 => repeat (first | exact (Kd.R_reads' HO220.out).2.2 | (with_reducible refine Kd.C_alloc ?_ _) | (with_reducible refine Kd.C_drewN ?_ _) | (with_reducible refine Kd.C_drew ?_)))
              (case side2 => exact (Kd.R_reads' HO220.out).2.1)
              rintro e w79 ⟨rfl, hb⟩
              refine ⟨_, rfl, ?_⟩
              have n0_ := Aside0.mk (Kd.R_below (by (with_reducible repeat (first | apply Kd.R_alloc | apply Kd.R_drewN | apply Kd.R_drew)); exact HO_2.out) hb)
              have n1_ := Aside0.mk (Kd.R_below (by (with_reducible repeat (first | apply Kd.R_alloc | apply Kd.R_drewN | apply Kd.R_drew)); exact HO220.out) hb)
              have n2_ := Aside0.mk (blk_below (g := gb152) (o := .cells #[.int .i64 t148, .int .i64 t149, .int .i64 t150, .int .i64 t151] 26 (0, 0)) (by (with_reducible repeat (first | refine blk_drewN ?_ _ | refine blk_drew ?_ | refine blk_alloc ?_ _)); exact BK152.out) hb)
              have n3_ := Aside0.mk (below_step (by repeat (first | (with_reducible first | exact HB.out | apply below_alloc | apply pw_below_drewN | apply below_drew1 | refine below_set ?_ GE152.out) | exact HB.out)) hb)
              clear HO_2
              clear HO220
              clear BK152
              clear HB
              have HO_2 := n0_
              have HO220 := n1_
              have BK152 := n2_
              have HB := n3_
              clear n0_ n1_ n2_ n3_
              (try clear hb)
              (try clear hb2)
              (try clear hk)
              (try clear hi)
              refine hK.out _ _ trivial (fun hHeld => ?_)
              clear hK K
              refine norm_ (a' := ?_) ?_ ?_
              rotate_left
              · show Act.put _ (some 44) _ = _
                simp only [Act.put, List.setIfInBounds_toArray, List.set_cons_zero, List.set_cons_succ, i64_w, i32_w]
                rfl
              refine one_ (i := 11) (N := some 45) #[true, true, true, true, true, true, true, true, true, true, true, true, false, false, false, false, false, false, false, false] rfl rfl (one_of HT_.out (by kernel_rfl)) (by decide) (fun K hK => ?_)
              refine goes_ Try.func38 (by kernel_rfl) rfl #[.int .i64 1, .int .i64 3, .int .i64 4, .int .i64 6] (by rfl) rfl rfl (by (try simp only [List.map_toArray, List.map_cons, List.map_nil]); first | done | rfl | (simp only [List.length_drop, List.length_take]; rfl)) ?_
              with_reducible refine (waveletlaw01_of.calls 1 3 4 6 t225 t226 t227 t228 _ A66.out).mono ?_
              rintro e w80 ⟨rfl, hb⟩
              refine ⟨_, rfl, ?_⟩
              have n0_ := Aside0.mk (Kd.R_below (by (with_reducible repeat (first | apply Kd.R_alloc | apply Kd.R_drewN | apply Kd.R_drew)); exact HO_2.out) hb)
              have n1_ := Aside0.mk (Kd.R_below (by (with_reducible repeat (first | apply Kd.R_alloc | apply Kd.R_drewN | apply Kd.R_drew)); exact HO220.out) hb)
              have n2_ := Aside0.mk (blk_below (g := gb152) (o := .cells #[.int .i64 t148, .int .i64 t149, .int .i64 t150, .int .i64 t151] 26 (0, 0)) (by (with_reducible repeat (first | refine blk_drewN ?_ _ | refine blk_drew ?_ | refine blk_alloc ?_ _)); exact BK152.out) hb)
              have n3_ := Aside0.mk (below_step (by repeat (first | (with_reducible first | exact HB.out | apply below_alloc | apply pw_below_drewN | apply below_drew1 | refine below_set ?_ GE152.out) | exact HB.out)) hb)
              clear HO_2
              clear HO220
              clear BK152
              clear HB
              have HO_2 := n0_
              have HO220 := n1_
              have BK152 := n2_
              have HB := n3_
              clear n0_ n1_ n2_ n3_
              (try clear hb)
              (try clear hb2)
              (try clear hk)
              (try clear hi)
              refine hK.out _ _ trivial (fun hHeld => ?_)
              clear hK K
              refine norm_ (a' := ?_) ?_ ?_
              rotate_left
              · show Act.put _ (some 45) _ = _
                simp only [Act.put, List.setIfInBounds_toArray, List.set_cons_zero, List.set_cons_succ, i64_w, i32_w]
                rfl
              refine pure_ (i := 12) (N := some 46) (v := ?_) (a' := ?_) #[true, true, true, true, true, true, true, true, true, true, true, true, true, false, false, false, false, false, false, false] rfl rfl (any_of HT_.out (by kernel_rfl)) (fun _ _ _ h => h) (Or.inl ⟨by rfl, ?_⟩) ?_ ?_
              rotate_left
              · intro w'
                go_simp
                with_reducible rfl
              rotate_left
              · simp only [Act.put, List.setIfInBounds_toArray, List.set_cons_zero, List.set_cons_succ, i64_w, i32_w]
                rfl
              refine pure_ (i := 13) (N := some 47) (v := ?_) (a' := ?_) #[true, true, true, true, true, true, true, true, true, true, true, true, true, true, false, false, false, false, false, false] rfl rfl (any_of HT_.out (by kernel_rfl)) (fun _ _ _ h => h) (Or.inl ⟨by rfl, ?_⟩) ?_ ?_
              rotate_left
              · intro w'
                go_simp
                with_reducible rfl
              rotate_left
              · simp only [Act.put, List.setIfInBounds_toArray, List.set_cons_zero, List.set_cons_succ, i64_w, i32_w]
                rfl
              refine pure_ (i := 14) (N := some 48) (v := ?_) (a' := ?_) #[true, true, true, true, true, true, true, true, true, true, true, true, true, true, true, false, false, false, false, false] rfl rfl (any_of HT_.out (by kernel_rfl)) (fun _ _ _ h => h) (Or.inl ⟨by rfl, ?_⟩) ?_ ?_
              rotate_left
              · intro w'
                go_simp
                with_reducible rfl
              rotate_left
              · simp only [Act.put, List.setIfInBounds_toArray, List.set_cons_zero, List.set_cons_succ, i64_w, i32_w]
                rfl
              refine pure_ (i := 15) (N := some 49) (v := undef) (a' := ?_) #[true, true, true, true, true, true, true, true, true, true, true, true, true, true, true, true, false, false, false, false] rfl rfl (any_of HT_.out (by kernel_rfl)) (fun _ _ _ h => h) (Or.inr ⟨by rfl, rfl⟩) ?_ ?_
              rotate_left
              · simp only [Act.put, List.setIfInBounds_toArray, List.set_cons_zero, List.set_cons_succ, i64_w, i32_w]
                rfl
              refine pure_ (i := 16) (N := some 50) (v := undef) (a' := ?_) #[true, true, true, true, true, true, true, true, true, true, true, true, true, true, true, true, true, false, false, false] rfl rfl (any_of HT_.out (by kernel_rfl)) (fun _ _ _ h => h) (Or.inr ⟨by rfl, rfl⟩) ?_ ?_
              rotate_left
              · simp only [Act.put, List.setIfInBounds_toArray, List.set_cons_zero, List.set_cons_succ, i64_w, i32_w]
                rfl
              refine pure_ (i := 17) (N := some 51) (v := undef) (a' := ?_) #[true, true, true, true, true, true, true, true, true, true, true, true, true, true, true, true, true, true, false, false] rfl rfl (any_of HT_.out (by kernel_rfl)) (fun _ _ _ h => h) (Or.inr ⟨by rfl, rfl⟩) ?_ ?_
              rotate_left
              · simp only [Act.put, List.setIfInBounds_toArray, List.set_cons_zero, List.set_cons_succ, i64_w, i32_w]
                rfl
              refine pure_ (i := 18) (N := some 52) (v := undef) (a' := ?_) #[true, true, true, true, true, true, true, true, true, true, true, true, true, true, true, true, true, true, true, false] rfl rfl (any_of HT_.out (by kernel_rfl)) (fun _ _ _ h => h) (Or.inr ⟨by rfl, rfl⟩) ?_ ?_
              rotate_left
              · simp only [Act.put, List.setIfInBounds_toArray, List.set_cons_zero, List.set_cons_succ, i64_w, i32_w]
                rfl
              refine pure_ (i := 19) (N := some 53) (v := ?_) (a' := ?_) #[true, true, true, true, true, true, true, true, true, true, true, true, true, true, true, true, true, true, true, true] rfl rfl (any_of HT_.out (by kernel_rfl)) (fun _ _ _ h => h) (Or.inl ⟨by rfl, ?_⟩) ?_ ?_
              rotate_left
              · intro w'
                go_simp
                with_reducible rfl
              rotate_left
              · simp only [Act.put, List.setIfInBounds_toArray, List.set_cons_zero, List.set_cons_succ, i64_w, i32_w]
                rfl
              refine done_ (done_of HT_.out (by kernel_rfl)) ?_
              try go_wp2
              go_meet
              case rel => exact ⟨_, (true), (by first | rfl | (simp; done) | (simp [*]; done)), H', ⟨by have := HJ5.out; first | omega | exact Nat.le_refl _⟩, ⟨by (with_reducible repeat (first | apply Kd.R_alloc | apply Kd.R_drewN | apply Kd.R_drew)); exact Kd.R_mono HO_2.out (fun _ hk => hk.1)⟩, ⟨by (with_reducible repeat (first | refine blk_drewN ?_ _ | refine blk_drew ?_ | refine blk_alloc ?_ _)); exact BK152.out⟩, ⟨by repeat (first | (with_reducible first | exact HB.out | apply below_alloc | apply pw_below_drewN | apply below_drew1 | refine below_set ?_ GE152.out) | exact HB.out)⟩⟩
            · rw [if_neg c67] at H
              have c67b0 : (!(t221 == t225) || (!(t222 == t226) || (!(t223 == t227) || (!(t224 == t228))))) = false := by simpa using c67
              clear c67
              replace H := Option.bind_eq_some_iff.mp H
              obtain ⟨⟨t229, t230, t231, t232⟩, A810, H⟩ := H
              replace H : ((rect_Contains.f t148 t149 t150 t151 t229 t230 t231 t232).bind fun t233 => (waveletlaw01_exampleHolds.j1 kj5 y169 (!t233) t148 t149 t150 t151)) = some r := H
              have A81 := Aside0.mk A810
              clear A810
              replace H := Option.bind_eq_some_iff.mp H
              obtain ⟨t233, A820, H⟩ := H
              replace H : (waveletlaw01_exampleHolds.j1 kj5 y169 (!t233) t148 t149 t150 t151) = some r := H
              have A82 := Aside0.mk A820
              clear A820
              have H' := Aside0.mk H
              clear H
              try go_wp2
              have n0_ := Aside0.mk (Kd.R_drew HO_2.out)
              have n1_ := Aside0.mk (blk_drew BK152.out)
              have n2_ := Aside0.mk (below_drew1 HB.out)
              clear HO_2
              clear BK152
              clear HB
              have HO_2 := n0_
              have BK152 := n1_
              have HB := n2_
              clear n0_ n1_ n2_
              refine start_ (n := 20) (S := fun w' => w'.cell? ⟨gb152, 0, none⟩ = some (.int .i64 t148) ∧ w'.cell? ⟨gb152, 1, none⟩ = some (.int .i64 t149) ∧ w'.cell? ⟨gb152, 2, none⟩ = some (.int .i64 t150) ∧ w'.cell? ⟨gb152, 3, none⟩ = some (.int .i64 t151)) (ds := []) #[false, false, false, false, false, false, false, false, false, false, false, false, false, false, false, false, false, false, false, false] (by kernel_rfl) rfl rfl ⟨(blk_cell BK152.out 0).trans rfl, (blk_cell BK152.out 1).trans rfl, (blk_cell BK152.out 2).trans rfl, (blk_cell BK152.out 3).trans rfl⟩ (fun hHeld => ?_); refine with_tabW waveletlaw01_exampleHolds.tab5 waveletlaw01_exampleHolds.bits5 (fun HT_ HW_ => ?_)
              generalize wc.drew = w83 at HO_2 BK152 HB hHeld ⊢
              refine one_ (i := 0) (N := some 34) #[true, false, false, false, false, false, false, false, false, false, false, false, false, false, false, false, false, false, false, false] rfl rfl (one_of HT_.out (by kernel_rfl)) (by decide) (fun K hK => ?_)
              refine goes_ Try.func38 (by kernel_rfl) rfl #[.int .i64 0, .int .i64 0, .int .i64 4, .int .i64 4] (by rfl) rfl rfl (by (try simp only [List.map_toArray, List.map_cons, List.map_nil]); first | done | rfl | (simp only [List.length_drop, List.length_take]; rfl)) ?_
              with_reducible refine (waveletlaw01_of.calls 0 0 4 4 t190 t191 t192 t193 _ A52.out).mono ?_
              rintro e w84 ⟨rfl, hb⟩
              refine ⟨_, rfl, ?_⟩
              have n0_ := Aside0.mk (Kd.R_below (by (with_reducible repeat (first | apply Kd.R_alloc | apply Kd.R_drewN | apply Kd.R_drew)); exact HO_2.out) hb)
              have n1_ := Aside0.mk (blk_below (g := gb152) (o := .cells #[.int .i64 t148, .int .i64 t149, .int .i64 t150, .int .i64 t151] 26 (0, 0)) (by (with_reducible repeat (first | refine blk_drewN ?_ _ | refine blk_drew ?_ | refine blk_alloc ?_ _)); exact BK152.out) hb)
              have n2_ := Aside0.mk (below_step (by repeat (first | (with_reducible first | exact HB.out | apply below_alloc | apply pw_below_drewN | apply below_drew1 | refine below_set ?_ GE152.out) | exact HB.out)) hb)
              clear HO_2
              clear BK152
              clear HB
              have HO_2 := n0_
              have BK152 := n1_
              have HB := n2_
              clear n0_ n1_ n2_
              (try clear hb)
              (try clear hb2)
              (try clear hk)
              (try clear hi)
              refine hK.out _ _ ⟨(blk_cell BK152.out 0).trans rfl, (blk_cell BK152.out 1).trans rfl, (blk_cell BK152.out 2).trans rfl, (blk_cell BK152.out 3).trans rfl⟩ (fun hHeld => ?_)
              clear hK K
              refine norm_ (a' := ?_) ?_ ?_
              rotate_left
              · show Act.put _ (some 34) _ = _
                simp only [Act.put, List.setIfInBounds_toArray, List.set_cons_zero, List.set_cons_succ, i64_w, i32_w]
                rfl
              refine one_ (i := 1) (N := some 35) #[true, true, false, false, false, false, false, false, false, false, false, false, false, false, false, false, false, false, false, false] rfl rfl (one_of HT_.out (by kernel_rfl)) (by decide) (fun K hK => ?_)
              refine goes_ Try.func38 (by kernel_rfl) rfl #[.int .i64 2, .int .i64 1, .int .i64 9, .int .i64 3] (by rfl) rfl rfl (by (try simp only [List.map_toArray, List.map_cons, List.map_nil]); first | done | rfl | (simp only [List.length_drop, List.length_take]; rfl)) ?_
              with_reducible refine (waveletlaw01_of.calls 2 1 9 3 t194 t195 t196 t197 _ A53.out).mono ?_
              rintro e w85 ⟨rfl, hb⟩
              refine ⟨_, rfl, ?_⟩
              have n0_ := Aside0.mk (Kd.R_below (by (with_reducible repeat (first | apply Kd.R_alloc | apply Kd.R_drewN | apply Kd.R_drew)); exact HO_2.out) hb)
              have n1_ := Aside0.mk (blk_below (g := gb152) (o := .cells #[.int .i64 t148, .int .i64 t149, .int .i64 t150, .int .i64 t151] 26 (0, 0)) (by (with_reducible repeat (first | refine blk_drewN ?_ _ | refine blk_drew ?_ | refine blk_alloc ?_ _)); exact BK152.out) hb)
              have n2_ := Aside0.mk (below_step (by repeat (first | (with_reducible first | exact HB.out | apply below_alloc | apply pw_below_drewN | apply below_drew1 | refine below_set ?_ GE152.out) | exact HB.out)) hb)
              clear HO_2
              clear BK152
              clear HB
              have HO_2 := n0_
              have BK152 := n1_
              have HB := n2_
              clear n0_ n1_ n2_
              (try clear hb)
              (try clear hb2)
              (try clear hk)
              (try clear hi)
              refine hK.out _ _ ⟨(blk_cell BK152.out 0).trans rfl, (blk_cell BK152.out 1).trans rfl, (blk_cell BK152.out 2).trans rfl, (blk_cell BK152.out 3).trans rfl⟩ (fun hHeld => ?_)
              clear hK K
              refine norm_ (a' := ?_) ?_ ?_
              rotate_left
              · show Act.put _ (some 35) _ = _
                simp only [Act.put, List.setIfInBounds_toArray, List.set_cons_zero, List.set_cons_succ, i64_w, i32_w]
                rfl
              refine one_ (i := 2) (N := some 36) #[true, true, true, false, false, false, false, false, false, false, false, false, false, false, false, false, false, false, false, false] rfl rfl (one_of HT_.out (by kernel_rfl)) (by decide) (fun K hK => ?_)
              refine goes_ Try.func28 (by kernel_rfl) rfl #[.agg #[.int .i64 t190, .int .i64 t191, .int .i64 t192, .int .i64 t193], .agg #[.int .i64 t194, .int .i64 t195, .int .i64 t196, .int .i64 t197]] (by rfl) rfl rfl (by (try simp only [List.map_toArray, List.map_cons, List.map_nil]); first | done | rfl | (simp only [List.length_drop, List.length_take]; rfl)) ?_
              with_reducible refine (rect_Intersect.calls t190 t191 t192 t193 t194 t195 t196 t197 t198 t199 t200 t201 _ A54.out).mono ?_
              rintro e w86 ⟨rfl, hb⟩
              refine ⟨_, rfl, ?_⟩
              have n0_ := Aside0.mk (Kd.R_below (by (with_reducible repeat (first | apply Kd.R_alloc | apply Kd.R_drewN | apply Kd.R_drew)); exact HO_2.out) hb)
              have n1_ := Aside0.mk (blk_below (g := gb152) (o := .cells #[.int .i64 t148, .int .i64 t149, .int .i64 t150, .int .i64 t151] 26 (0, 0)) (by (with_reducible repeat (first | refine blk_drewN ?_ _ | refine blk_drew ?_ | refine blk_alloc ?_ _)); exact BK152.out) hb)
              have n2_ := Aside0.mk (below_step (by repeat (first | (with_reducible first | exact HB.out | apply below_alloc | apply pw_below_drewN | apply below_drew1 | refine below_set ?_ GE152.out) | exact HB.out)) hb)
              clear HO_2
              clear BK152
              clear HB
              have HO_2 := n0_
              have BK152 := n1_
              have HB := n2_
              clear n0_ n1_ n2_
              (try clear hb)
              (try clear hb2)
              (try clear hk)
              (try clear hi)
              refine hK.out _ _ ⟨(blk_cell BK152.out 0).trans rfl, (blk_cell BK152.out 1).trans rfl, (blk_cell BK152.out 2).trans rfl, (blk_cell BK152.out 3).trans rfl⟩ (fun hHeld => ?_)
              clear hK K
              refine norm_ (a' := ?_) ?_ ?_
              rotate_left
              · show Act.put _ (some 36) _ = _
                simp only [Act.put, List.setIfInBounds_toArray, List.set_cons_zero, List.set_cons_succ, i64_w, i32_w]
                rfl
              refine one_ (i := 3) (N := some 37) #[true, true, true, true, false, false, false, false, false, false, false, false, false, false, false, false, false, false, false, false] rfl rfl (one_of HT_.out (by kernel_rfl)) (by decide) (fun K hK => ?_)
              refine goes_ Try.func38 (by kernel_rfl) rfl #[.int .i64 2, .int .i64 1, .int .i64 4, .int .i64 3] (by rfl) rfl rfl (by (try simp only [List.map_toArray, List.map_cons, List.map_nil]); first | done | rfl | (simp only [List.length_drop, List.length_take]; rfl)) ?_
              with_reducible refine (waveletlaw01_of.calls 2 1 4 3 t202 t203 t204 t205 _ A55.out).mono ?_
              rintro e w87 ⟨rfl, hb⟩
              refine ⟨_, rfl, ?_⟩
              have n0_ := Aside0.mk (Kd.R_below (by (with_reducible repeat (first | apply Kd.R_alloc | apply Kd.R_drewN | apply Kd.R_drew)); exact HO_2.out) hb)
              have n1_ := Aside0.mk (blk_below (g := gb152) (o := .cells #[.int .i64 t148, .int .i64 t149, .int .i64 t150, .int .i64 t151] 26 (0, 0)) (by (with_reducible repeat (first | refine blk_drewN ?_ _ | refine blk_drew ?_ | refine blk_alloc ?_ _)); exact BK152.out) hb)
              have n2_ := Aside0.mk (below_step (by repeat (first | (with_reducible first | exact HB.out | apply below_alloc | apply pw_below_drewN | apply below_drew1 | refine below_set ?_ GE152.out) | exact HB.out)) hb)
              clear HO_2
              clear BK152
              clear HB
              have HO_2 := n0_
              have BK152 := n1_
              have HB := n2_
              clear n0_ n1_ n2_
              (try clear hb)
              (try clear hb2)
              (try clear hk)
              (try clear hi)
              refine hK.out _ _ ⟨(blk_cell BK152.out 0).trans rfl, (blk_cell BK152.out 1).trans rfl, (blk_cell BK152.out 2).trans rfl, (blk_cell BK152.out 3).trans rfl⟩ (fun hHeld => ?_)
              clear hK K
              refine norm_ (a' := ?_) ?_ ?_
              rotate_left
              · show Act.put _ (some 37) _ = _
                simp only [Act.put, List.setIfInBounds_toArray, List.set_cons_zero, List.set_cons_succ, i64_w, i32_w]
                rfl
              refine pure_ (i := 4) (N := some 38) (v := ?_) (a' := ?_) #[true, true, true, true, true, false, false, false, false, false, false, false, false, false, false, false, false, false, false, false] rfl rfl (any_of HT_.out (by kernel_rfl)) (fun _ _ _ h => h) (Or.inl ⟨by rfl, ?_⟩) ?_ ?_
              rotate_left
              · intro w'
                go_simp
                with_reducible rfl
              rotate_left
              · simp only [Act.put, List.setIfInBounds_toArray, List.set_cons_zero, List.set_cons_succ, i64_w, i32_w]
                rfl
              refine pure_ (i := 5) (N := some 39) (v := ?_) (a' := ?_) #[true, true, true, true, true, true, false, false, false, false, false, false, false, false, false, false, false, false, false, false] rfl rfl (any_of HT_.out (by kernel_rfl)) (fun _ _ _ h => h) (Or.inl ⟨by rfl, ?_⟩) ?_ ?_
              rotate_left
              · intro w'
                go_simp
                with_reducible rfl
              rotate_left
              · simp only [Act.put, List.setIfInBounds_toArray, List.set_cons_zero, List.set_cons_succ, i64_w, i32_w]
                rfl
              refine one_ (i := 6) (N := some 40) #[true, true, true, true, true, true, true, false, false, false, false, false, false, false, false, false, false, false, false, false] rfl rfl (one_of HT_.out (by kernel_rfl)) (by decide) (fun K hK => ?_)
              refine goes_ Try.func38 (by kernel_rfl) rfl #[.int .i64 3, .int .i64 3, .int .i64 4, .int .i64 4] (by rfl) rfl rfl (by (try simp only [List.map_toArray, List.map_cons, List.map_nil]); first | done | rfl | (simp only [List.length_drop, List.length_take]; rfl)) ?_
              with_reducible refine (waveletlaw01_of.calls 3 3 4 4 t206 t207 t208 t209 _ A62.out).mono ?_
              rintro e w88 ⟨rfl, hb⟩
              refine ⟨_, rfl, ?_⟩
              have n0_ := Aside0.mk (Kd.R_below (by (with_reducible repeat (first | apply Kd.R_alloc | apply Kd.R_drewN | apply Kd.R_drew)); exact HO_2.out) hb)
              have n1_ := Aside0.mk (blk_below (g := gb152) (o := .cells #[.int .i64 t148, .int .i64 t149, .int .i64 t150, .int .i64 t151] 26 (0, 0)) (by (with_reducible repeat (first | refine blk_drewN ?_ _ | refine blk_drew ?_ | refine blk_alloc ?_ _)); exact BK152.out) hb)
              have n2_ := Aside0.mk (below_step (by repeat (first | (with_reducible first | exact HB.out | apply below_alloc | apply pw_below_drewN | apply below_drew1 | refine below_set ?_ GE152.out) | exact HB.out)) hb)
              clear HO_2
              clear BK152
              clear HB
              have HO_2 := n0_
              have BK152 := n1_
              have HB := n2_
              clear n0_ n1_ n2_
              (try clear hb)
              (try clear hb2)
              (try clear hk)
              (try clear hi)
              refine hK.out _ _ ⟨(blk_cell BK152.out 0).trans rfl, (blk_cell BK152.out 1).trans rfl, (blk_cell BK152.out 2).trans rfl, (blk_cell BK152.out 3).trans rfl⟩ (fun hHeld => ?_)
              clear hK K
              refine norm_ (a' := ?_) ?_ ?_
              rotate_left
              · show Act.put _ (some 40) _ = _
                simp only [Act.put, List.setIfInBounds_toArray, List.set_cons_zero, List.set_cons_succ, i64_w, i32_w]
                rfl
              refine one_ (i := 7) (N := some 41) #[true, true, true, true, true, true, true, true, false, false, false, false, false, false, false, false, false, false, false, false] rfl rfl (one_of HT_.out (by kernel_rfl)) (by decide) (fun K hK => ?_)
              refine goes_ Try.func38 (by kernel_rfl) rfl #[.int .i64 7, .int .i64 7, .int .i64 7, .int .i64 9] (by rfl) rfl rfl (by (try simp only [List.map_toArray, List.map_cons, List.map_nil]); first | done | rfl | (simp only [List.length_drop, List.length_take]; rfl)) ?_
              with_reducible refine (waveletlaw01_of.calls 7 7 7 9 t210 t211 t212 t213 _ A63.out).mono ?_
              rintro e w89 ⟨rfl, hb⟩
              refine ⟨_, rfl, ?_⟩
              have n0_ := Aside0.mk (Kd.R_below (by (with_reducible repeat (first | apply Kd.R_alloc | apply Kd.R_drewN | apply Kd.R_drew)); exact HO_2.out) hb)
              have n1_ := Aside0.mk (blk_below (g := gb152) (o := .cells #[.int .i64 t148, .int .i64 t149, .int .i64 t150, .int .i64 t151] 26 (0, 0)) (by (with_reducible repeat (first | refine blk_drewN ?_ _ | refine blk_drew ?_ | refine blk_alloc ?_ _)); exact BK152.out) hb)
              have n2_ := Aside0.mk (below_step (by repeat (first | (with_reducible first | exact HB.out | apply below_alloc | apply pw_below_drewN | apply below_drew1 | refine below_set ?_ GE152.out) | exact HB.out)) hb)
              clear HO_2
              clear BK152
              clear HB
              have HO_2 := n0_
              have BK152 := n1_
              have HB := n2_
              clear n0_ n1_ n2_
              (try clear hb)
              (try clear hb2)
              (try clear hk)
              (try clear hi)
              refine hK.out _ _ ⟨(blk_cell BK152.out 0).trans rfl, (blk_cell BK152.out 1).trans rfl, (blk_cell BK152.out 2).trans rfl, (blk_cell BK152.out 3).trans rfl⟩ (fun hHeld => ?_)
              clear hK K
              refine norm_ (a' := ?_) ?_ ?_
              rotate_left
              · show Act.put _ (some 41) _ = _
                simp only [Act.put, List.setIfInBounds_toArray, List.set_cons_zero, List.set_cons_succ, i64_w, i32_w]
                rfl
              refine one_ (i := 8) (N := some 42) #[true, true, true, true, true, true, true, true, true, false, false, false, false, false, false, false, false, false, false, false] rfl rfl (one_of HT_.out (by kernel_rfl)) (by decide) (fun K hK => ?_)
              refine goes_ Try.func38 (by kernel_rfl) rfl #[.int .i64 1, .int .i64 5, .int .i64 2, .int .i64 6] (by rfl) rfl rfl (by (try simp only [List.map_toArray, List.map_cons, List.map_nil]); first | done | rfl | (simp only [List.length_drop, List.length_take]; rfl)) ?_
              with_reducible refine (waveletlaw01_of.calls 1 5 2 6 t214 t215 t216 t217 _ A64.out).mono ?_
              rintro e w90 ⟨rfl, hb⟩
              refine ⟨_, rfl, ?_⟩
              have n0_ := Aside0.mk (Kd.R_below (by (with_reducible repeat (first | apply Kd.R_alloc | apply Kd.R_drewN | apply Kd.R_drew)); exact HO_2.out) hb)
              have n1_ := Aside0.mk (blk_below (g := gb152) (o := .cells #[.int .i64 t148, .int .i64 t149, .int .i64 t150, .int .i64 t151] 26 (0, 0)) (by (with_reducible repeat (first | refine blk_drewN ?_ _ | refine blk_drew ?_ | refine blk_alloc ?_ _)); exact BK152.out) hb)
              have n2_ := Aside0.mk (below_step (by repeat (first | (with_reducible first | exact HB.out | apply below_alloc | apply pw_below_drewN | apply below_drew1 | refine below_set ?_ GE152.out) | exact HB.out)) hb)
              clear HO_2
              clear BK152
              clear HB
              have HO_2 := n0_
              have BK152 := n1_
              have HB := n2_
              clear n0_ n1_ n2_
              (try clear hb)
              (try clear hb2)
              (try clear hk)
              (try clear hi)
              refine hK.out _ _ ⟨(blk_cell BK152.out 0).trans rfl, (blk_cell BK152.out 1).trans rfl, (blk_cell BK152.out 2).trans rfl, (blk_cell BK152.out 3).trans rfl⟩ (fun hHeld => ?_)
              clear hK K
              refine norm_ (a' := ?_) ?_ ?_
              rotate_left
              · show Act.put _ (some 42) _ = _
                simp only [Act.put, List.setIfInBounds_toArray, List.set_cons_zero, List.set_cons_succ, i64_w, i32_w]
                rfl
              refine one_ (i := 9) (N := some 43) #[true, true, true, true, true, true, true, true, true, true, false, false, false, false, false, false, false, false, false, false] rfl rfl (one_of HT_.out (by kernel_rfl)) (by decide) (fun K hK => ?_)
              refine Kd.R_lit_step k26 _ 26 ?hg (N := 43) ?hd (xs := ([(⟨t206, t207, t208, t209⟩ : S26), (⟨t210, t211, t212, t213⟩ : S26), (⟨t214, t215, t216, t217⟩ : S26)] : List (S26))) (inner := [.int .i64 t206, .int .i64 t207, .int .i64 t208, .int .i64 t209, .int .i64 t210, .int .i64 t211, .int .i64 t212, .int .i64 t213, .int .i64 t214, .int .i64 t215, .int .i64 t216, .int .i64 t217]) (ok := fun _ => True) (okp := fun _ => True) ?hr ?hp (fun _ hk => hk) trivial (Below.refl _ _) (Nat.le_refl _) (by simp) ?_; (case hd => rfl); (case hg => rfl); (case hr => first | (go_simp; done) | (go_simp; rfl)); (case hp => exact (Reps.c4 (show Kd.M k26 _ _ _ (⟨t206, t207, t208, t209⟩ : S26) [.int .i64 t206, .int .i64 t207, .int .i64 t208, .int .i64 t209] from (k26_mkM _ _ _ (⟨t206, t207, t208, t209⟩ : S26) )) (Reps.c4 (show Kd.M k26 _ _ _ (⟨t210, t211, t212, t213⟩ : S26) [.int .i64 t210, .int .i64 t211, .int .i64 t212, .int .i64 t213] from (k26_mkM _ _ _ (⟨t210, t211, t212, t213⟩ : S26) )) (Reps.c4 (show Kd.M k26 _ _ _ (⟨t214, t215, t216, t217⟩ : S26) [.int .i64 t214, .int .i64 t215, .int .i64 t216, .int .i64 t217] from (k26_mkM _ _ _ (⟨t214, t215, t216, t217⟩ : S26) )) (Reps.none _ _)))))
              intro v219 w91 ho92 hb hg_ hnew_
              clear hg_ hnew_
              (first | rw [← Ny218.out] at ho92 | (simp only [Int.reduceToNat] at ho92; rw [← Ny218.out] at ho92))
              have n0_ := Aside0.mk (Kd.R_elder' (by (with_reducible repeat (first | apply Kd.R_alloc | apply Kd.R_drewN | apply Kd.R_drew)); exact HO_2.out) (Kd.R_base ho92) hb)
              have n1_ := Aside0.mk (Kd.R_lower (Kd.R_newB (Kd.R_new' ho92 (Kd.R_lt (by (with_reducible repeat (first | apply Kd.R_alloc | apply Kd.R_drewN | apply Kd.R_drew)); exact HO_2.out))) (g := gb152) (o := .cells #[.int .i64 t148, .int .i64 t149, .int .i64 t150, .int .i64 t151] 26 (0, 0)) (by (with_reducible repeat (first | refine blk_drewN ?_ _ | refine blk_drew ?_ | refine blk_alloc ?_ _)); exact BK152.out)) (below_size (by repeat (first | (with_reducible first | exact HB.out | apply below_alloc | apply pw_below_drewN | apply below_drew1 | refine below_set ?_ GE152.out) | exact HB.out))))
              have n2_ := Aside0.mk (blk_below (g := gb152) (o := .cells #[.int .i64 t148, .int .i64 t149, .int .i64 t150, .int .i64 t151] 26 (0, 0)) (by (with_reducible repeat (first | refine blk_drewN ?_ _ | refine blk_drew ?_ | refine blk_alloc ?_ _)); exact BK152.out) hb)
              have n3_ := Aside0.mk (below_step (by repeat (first | (with_reducible first | exact HB.out | apply below_alloc | apply pw_below_drewN | apply below_drew1 | refine below_set ?_ GE152.out) | exact HB.out)) hb)
              clear HO_2
              clear BK152
              clear HB
              have HO_2 := n0_
              have HO220 := n1_
              have BK152 := n2_
              have HB := n3_
              clear n0_ n1_ n2_ n3_
              clear hb ho92
              obtain ⟨Ao93, co93, eo93⟩ := Kd.R_slice HO220.out
              (first | subst eo93 | (injection eo93 with f1_ f2_ f3_; have f4_ := f1_.symm; have f5_ := f3_.symm; clear f1_ f2_ f3_; subst f4_; subst f5_))
              refine hK.out _ _ ⟨(blk_cell BK152.out 0).trans rfl, (blk_cell BK152.out 1).trans rfl, (blk_cell BK152.out 2).trans rfl, (blk_cell BK152.out 3).trans rfl⟩ (fun hHeld => ?_)
              clear hK K
              refine norm_ (a' := ?_) ?_ ?_
              rotate_left
              · show Act.put _ (some 43) _ = _
                simp only [Act.put, List.setIfInBounds_toArray, List.set_cons_zero, List.set_cons_succ, i64_w, i32_w]
                rfl
              refine one_ (i := 10) (N := some 44) #[true, true, true, true, true, true, true, true, true, true, true, false, false, false, false, false, false, false, false, false] rfl rfl (one_of HT_.out (by kernel_rfl)) (by decide) (fun K hK => ?_)
              refine goes_ Try.func30 (by kernel_rfl) rfl #[.slice Ao93 y218.length co93] (by rfl) rfl rfl (by (try simp only [List.map_toArray, List.map_cons, List.map_nil]); first | done | rfl | (simp only [List.length_drop, List.length_take]; rfl)) ?_
              with_reducible refine (rect_Bound.calls kj5 _ _ y218 t221 t222 t223 t224 _ ?side1 ?side2 A65.out).mono ?_
              (case side1 => repeat (first | exact (Kd.R_reads' HO220.out).2.2 | (with_reducible refine Kd.C_alloc ?_ _) | (with_reducible refine Kd.C_drewN ?_ _) | (with_reducible refine Kd.C_drew ?_)))
              (case side2 => exact (Kd.R_reads' HO220.out).2.1)
              rintro e w94 ⟨rfl, hb⟩
              refine ⟨_, rfl, ?_⟩
              have n0_ := Aside0.mk (Kd.R_below (by (with_reducible repeat (first | apply Kd.R_alloc | apply Kd.R_drewN | apply Kd.R_drew)); exact HO_2.out) hb)
              have n1_ := Aside0.mk (Kd.R_below (by (with_reducible repeat (first | apply Kd.R_alloc | apply Kd.R_drewN | apply Kd.R_drew)); exact HO220.out) hb)
              have n2_ := Aside0.mk (blk_below (g := gb152) (o := .cells #[.int .i64 t148, .int .i64 t149, .int .i64 t150, .int .i64 t151] 26 (0, 0)) (by (with_reducible repeat (first | refine blk_drewN ?_ _ | refine blk_drew ?_ | refine blk_alloc ?_ _)); exact BK152.out) hb)
              have n3_ := Aside0.mk (below_step (by repeat (first | (with_reducible first | exact HB.out | apply below_alloc | apply pw_below_drewN | apply below_drew1 | refine below_set ?_ GE152.out) | exact HB.out)) hb)
              clear HO_2
              clear HO220
              clear BK152
              clear HB
              have HO_2 := n0_
              have HO220 := n1_
              have BK152 := n2_
              have HB := n3_
              clear n0_ n1_ n2_ n3_
              (try clear hb)
              (try clear hb2)
              (try clear hk)
              (try clear hi)
              refine hK.out _ _ ⟨(blk_cell BK152.out 0).trans rfl, (blk_cell BK152.out 1).trans rfl, (blk_cell BK152.out 2).trans rfl, (blk_cell BK152.out 3).trans rfl⟩ (fun hHeld => ?_)
              clear hK K
              refine norm_ (a' := ?_) ?_ ?_
              rotate_left
              · show Act.put _ (some 44) _ = _
                simp only [Act.put, List.setIfInBounds_toArray, List.set_cons_zero, List.set_cons_succ, i64_w, i32_w]
                rfl
              refine one_ (i := 11) (N := some 45) #[true, true, true, true, true, true, true, true, true, true, true, true, false, false, false, false, false, false, false, false] rfl rfl (one_of HT_.out (by kernel_rfl)) (by decide) (fun K hK => ?_)
              refine goes_ Try.func38 (by kernel_rfl) rfl #[.int .i64 1, .int .i64 3, .int .i64 4, .int .i64 6] (by rfl) rfl rfl (by (try simp only [List.map_toArray, List.map_cons, List.map_nil]); first | done | rfl | (simp only [List.length_drop, List.length_take]; rfl)) ?_
              with_reducible refine (waveletlaw01_of.calls 1 3 4 6 t225 t226 t227 t228 _ A66.out).mono ?_
              rintro e w95 ⟨rfl, hb⟩
              refine ⟨_, rfl, ?_⟩
              have n0_ := Aside0.mk (Kd.R_below (by (with_reducible repeat (first | apply Kd.R_alloc | apply Kd.R_drewN | apply Kd.R_drew)); exact HO_2.out) hb)
              have n1_ := Aside0.mk (Kd.R_below (by (with_reducible repeat (first | apply Kd.R_alloc | apply Kd.R_drewN | apply Kd.R_drew)); exact HO220.out) hb)
              have n2_ := Aside0.mk (blk_below (g := gb152) (o := .cells #[.int .i64 t148, .int .i64 t149, .int .i64 t150, .int .i64 t151] 26 (0, 0)) (by (with_reducible repeat (first | refine blk_drewN ?_ _ | refine blk_drew ?_ | refine blk_alloc ?_ _)); exact BK152.out) hb)
              have n3_ := Aside0.mk (below_step (by repeat (first | (with_reducible first | exact HB.out | apply below_alloc | apply pw_below_drewN | apply below_drew1 | refine below_set ?_ GE152.out) | exact HB.out)) hb)
              clear HO_2
              clear HO220
              clear BK152
              clear HB
              have HO_2 := n0_
              have HO220 := n1_
              have BK152 := n2_
              have HB := n3_
              clear n0_ n1_ n2_ n3_
              (try clear hb)
              (try clear hb2)
              (try clear hk)
              (try clear hi)
              refine hK.out _ _ ⟨(blk_cell BK152.out 0).trans rfl, (blk_cell BK152.out 1).trans rfl, (blk_cell BK152.out 2).trans rfl, (blk_cell BK152.out 3).trans rfl⟩ (fun hHeld => ?_)
              clear hK K
              refine norm_ (a' := ?_) ?_ ?_
              rotate_left
              · show Act.put _ (some 45) _ = _
                simp only [Act.put, List.setIfInBounds_toArray, List.set_cons_zero, List.set_cons_succ, i64_w, i32_w]
                rfl
              refine pure_ (i := 12) (N := some 46) (v := ?_) (a' := ?_) #[true, true, true, true, true, true, true, true, true, true, true, true, true, false, false, false, false, false, false, false] rfl rfl (any_of HT_.out (by kernel_rfl)) (fun _ _ _ h => h) (Or.inl ⟨by rfl, ?_⟩) ?_ ?_
              rotate_left
              · intro w'
                go_simp
                with_reducible rfl
              rotate_left
              · simp only [Act.put, List.setIfInBounds_toArray, List.set_cons_zero, List.set_cons_succ, i64_w, i32_w]
                rfl
              refine pure_ (i := 13) (N := some 47) (v := ?_) (a' := ?_) #[true, true, true, true, true, true, true, true, true, true, true, true, true, true, false, false, false, false, false, false] rfl rfl (any_of HT_.out (by kernel_rfl)) (fun _ _ _ h => h) (Or.inl ⟨by rfl, ?_⟩) ?_ ?_
              rotate_left
              · intro w'
                go_simp
                with_reducible rfl
              rotate_left
              · simp only [Act.put, List.setIfInBounds_toArray, List.set_cons_zero, List.set_cons_succ, i64_w, i32_w]
                rfl
              refine pure_ (i := 14) (N := some 48) (v := ?_) (a' := ?_) #[true, true, true, true, true, true, true, true, true, true, true, true, true, true, true, false, false, false, false, false] rfl rfl (any_of HT_.out (by kernel_rfl)) (fun _ _ _ h => h) (Or.inl ⟨by rfl, ?_⟩) ?_ ?_
              rotate_left
              · intro w'
                go_simp
                with_reducible rfl
              rotate_left
              · simp only [Act.put, List.setIfInBounds_toArray, List.set_cons_zero, List.set_cons_succ, i64_w, i32_w]
                rfl
              refine take_ (i := 15) (N := some 49) (v := ?_) (a' := ?_) #[true, true, true, true, true, true, true, true, true, true, true, true, true, true, true, true, false, false, false, false] rfl rfl (take_ofW HT_.out HW_.out (by kernel_rfl)) (fun _ _ _ h => h) (Or.inl ⟨by rfl, ?_⟩) hHeld ?_ ?_
              rotate_left
              · rintro w' ⟨s0, s1, s2, s3⟩
                go_simp
                with_reducible rfl
              rotate_left
              · simp only [Act.put, List.setIfInBounds_toArray, List.set_cons_zero, List.set_cons_succ, i64_w, i32_w]
                rfl
              refine one_ (i := 16) (N := some 50) #[true, true, true, true, true, true, true, true, true, true, true, true, true, true, true, true, true, false, false, false] rfl rfl (one_of HT_.out (by kernel_rfl)) (by decide) (fun K hK => ?_)
              refine goes_ Try.func38 (by kernel_rfl) rfl #[.int .i64 9, .int .i64 9, .int .i64 9, .int .i64 9] (by rfl) rfl rfl (by (try simp only [List.map_toArray, List.map_cons, List.map_nil]); first | done | rfl | (simp only [List.length_drop, List.length_take]; rfl)) ?_
              with_reducible refine (waveletlaw01_of.calls 9 9 9 9 t229 t230 t231 t232 _ A81.out).mono ?_
              rintro e w96 ⟨rfl, hb⟩
              refine ⟨_, rfl, ?_⟩
              have n0_ := Aside0.mk (Kd.R_below (by (with_reducible repeat (first | apply Kd.R_alloc | apply Kd.R_drewN | apply Kd.R_drew)); exact HO_2.out) hb)
              have n1_ := Aside0.mk (Kd.R_below (by (with_reducible repeat (first | apply Kd.R_alloc | apply Kd.R_drewN | apply Kd.R_drew)); exact HO220.out) hb)
              have n2_ := Aside0.mk (blk_below (g := gb152) (o := .cells #[.int .i64 t148, .int .i64 t149, .int .i64 t150, .int .i64 t151] 26 (0, 0)) (by (with_reducible repeat (first | refine blk_drewN ?_ _ | refine blk_drew ?_ | refine blk_alloc ?_ _)); exact BK152.out) hb)
              have n3_ := Aside0.mk (below_step (by repeat (first | (with_reducible first | exact HB.out | apply below_alloc | apply pw_below_drewN | apply below_drew1 | refine below_set ?_ GE152.out) | exact HB.out)) hb)
              clear HO_2
              clear HO220
              clear BK152
              clear HB
              have HO_2 := n0_
              have HO220 := n1_
              have BK152 := n2_
              have HB := n3_
              clear n0_ n1_ n2_ n3_
              (try clear hb)
              (try clear hb2)
              (try clear hk)
              (try clear hi)
              refine hK.out _ _ ⟨(blk_cell BK152.out 0).trans rfl, (blk_cell BK152.out 1).trans rfl, (blk_cell BK152.out 2).trans rfl, (blk_cell BK152.out 3).trans rfl⟩ (fun hHeld => ?_)
              clear hK K
              refine norm_ (a' := ?_) ?_ ?_
              rotate_left
              · show Act.put _ (some 50) _ = _
                simp only [Act.put, List.setIfInBounds_toArray, List.set_cons_zero, List.set_cons_succ, i64_w, i32_w]
                rfl
              refine one_ (i := 17) (N := some 51) #[true, true, true, true, true, true, true, true, true, true, true, true, true, true, true, true, true, true, false, false] rfl rfl (one_of HT_.out (by kernel_rfl)) (by decide) (fun K hK => ?_)
              refine goes_ Try.func26 (by kernel_rfl) rfl #[.agg #[.int .i64 t148, .int .i64 t149, .int .i64 t150, .int .i64 t151], .agg #[.int .i64 t229, .int .i64 t230, .int .i64 t231, .int .i64 t232]] (by rfl) rfl rfl (by (try simp only [List.map_toArray, List.map_cons, List.map_nil]); first | done | rfl | (simp only [List.length_drop, List.length_take]; rfl)) ?_
              with_reducible refine (rect_Contains.calls t148 t149 t150 t151 t229 t230 t231 t232 t233 _ A82.out).mono ?_
              rintro e w97 ⟨rfl, hb⟩
              refine ⟨_, rfl, ?_⟩
              have n0_ := Aside0.mk (Kd.R_below (by (with_reducible repeat (first | apply Kd.R_alloc | apply Kd.R_drewN | apply Kd.R_drew)); exact HO_2.out) hb)
              have n1_ := Aside0.mk (Kd.R_below (by (with_reducible repeat (first | apply Kd.R_alloc | apply Kd.R_drewN | apply Kd.R_drew)); exact HO220.out) hb)
              have n2_ := Aside0.mk (blk_below (g := gb152) (o := .cells #[.int .i64 t148, .int .i64 t149, .int .i64 t150, .int .i64 t151] 26 (0, 0)) (by (with_reducible repeat (first | refine blk_drewN ?_ _ | refine blk_drew ?_ | refine blk_alloc ?_ _)); exact BK152.out) hb)
              have n3_ := Aside0.mk (below_step (by repeat (first | (with_reducible first | exact HB.out | apply below_alloc | apply pw_below_drewN | apply below_drew1 | refine below_set ?_ GE152.out) | exact HB.out)) hb)
              clear HO_2
              clear HO220
              clear BK152
              clear HB
              have HO_2 := n0_
              have HO220 := n1_
              have BK152 := n2_
              have HB := n3_
              clear n0_ n1_ n2_ n3_
              (try clear hb)
              (try clear hb2)
              (try clear hk)
              (try clear hi)
              refine hK.out _ _ ⟨(blk_cell BK152.out 0).trans rfl, (blk_cell BK152.out 1).trans rfl, (blk_cell BK152.out 2).trans rfl, (blk_cell BK152.out 3).trans rfl⟩ (fun hHeld => ?_)
              clear hK K
              refine norm_ (a' := ?_) ?_ ?_
              rotate_left
              · show Act.put _ (some 51) _ = _
                simp only [Act.put, List.setIfInBounds_toArray, List.set_cons_zero, List.set_cons_succ, i64_w, i32_w]
                rfl
              refine pure_ (i := 18) (N := some 52) (v := ?_) (a' := ?_) #[true, true, true, true, true, true, true, true, true, true, true, true, true, true, true, true, true, true, true, false] rfl rfl (any_of HT_.out (by kernel_rfl)) (fun _ _ _ h => h) (Or.inl ⟨by rfl, ?_⟩) ?_ ?_
              rotate_left
              · intro w'
                go_simp
                with_reducible rfl
              rotate_left
              · simp only [Act.put, List.setIfInBounds_toArray, List.set_cons_zero, List.set_cons_succ, i64_w, i32_w]
                rfl
              refine pure_ (i := 19) (N := some 53) (v := ?_) (a' := ?_) #[true, true, true, true, true, true, true, true, true, true, true, true, true, true, true, true, true, true, true, true] rfl rfl (any_of HT_.out (by kernel_rfl)) (fun _ _ _ h => h) (Or.inl ⟨by rfl, ?_⟩) ?_ ?_
              rotate_left
              · intro w'
                go_simp
                with_reducible rfl
              rotate_left
              · simp only [Act.put, List.setIfInBounds_toArray, List.set_cons_zero, List.set_cons_succ, i64_w, i32_w]
                rfl
              refine done_ (done_of HT_.out (by kernel_rfl)) ?_
              try go_wp2
              go_meet
              case rel => exact ⟨_, (!t233), (by first | rfl | (simp; done) | (simp [*]; done)), H', ⟨by have := HJ5.out; first | omega | exact Nat.le_refl _⟩, ⟨by (with_reducible repeat (first | apply Kd.R_alloc | apply Kd.R_drewN | apply Kd.R_drew)); exact Kd.R_mono HO_2.out (fun _ hk => hk.1)⟩, ⟨by (with_reducible repeat (first | refine blk_drewN ?_ _ | refine blk_drew ?_ | refine blk_alloc ?_ _)); exact BK152.out⟩, ⟨by repeat (first | (with_reducible first | exact HB.out | apply below_alloc | apply pw_below_drewN | apply below_drew1 | refine below_set ?_ GE152.out) | exact HB.out)⟩⟩
        case rest =>
          clear HC51
          try clear c2
          try clear p2
          try clear c3
          try clear c4
          try clear c6
          try clear c26
          try clear c28
          try clear c30
          try clear c38
          try clear c67
          try clear c67b0
          obtain ⟨kq, x53_50, rfl, HA, HJ50, HO_2, BK152, HB⟩ := hcut
          cases kq with
          | zero => exact absurd HA.out (by simp [waveletlaw01_exampleHolds.j1])
          | succ kj50 =>
            have H := HA.out
            clear HA
            simp only [waveletlaw01_exampleHolds.j1] at H
            by_cases c98 : x53_50 = true
            · subst c98
              have H1 : (some false) = some r := by rw [if_pos rfl] at H; exact H
              clear H
              have H := H1
              clear H1
              obtain rfl := Option.some.inj H
              go_wp2
              go_ret
              exact ⟨by first | rfl | (simp [errW_none, errW_some] <;> rfl) | (simp [*, errW_none, errW_some] <;> rfl), by repeat (first | (with_reducible first | exact HB.out | apply below_alloc | apply pw_below_drewN | apply below_drew1 | refine below_set ?_ GE152.out) | exact HB.out)⟩
            · replace c98 := Bool.eq_false_iff.mpr c98
              subst c98
              have H1 : ((rect_Reduce.f kj50 t148 t149 t150 t151 2 2).bind fun bt234 => ((waveletlaw01_of.f 2 0 4 3).bind fun bt238 => (if (bt234.1 == bt238.1 && (bt234.2.1 == bt238.2.1 && (bt234.2.2.1 == bt238.2.2.1 && (bt234.2.2.2 == bt238.2.2.2)))) = true then ((rect_Cells.f kj50 t148 t149 t150 t151 4 4).bind fun t242 => ((waveletref01_Same.f kj50 t242 y169).bind fun t245 => (if t245 = true then ((rect_Has.f t148 t149 t150 t151 3 4).bind fun t246 => (some t246)) else (some false)))) else (some false)))) = some r := by rw [if_neg (show ¬ (false = true) by decide)] at H; exact H
              clear H
              have H := H1
              clear H1
              replace H := Option.bind_eq_some_iff.mp H
              obtain ⟨⟨t234, t235, t236, t237⟩, A990, H⟩ := H
              replace H : ((waveletlaw01_of.f 2 0 4 3).bind fun bt238 => (if (t234 == bt238.1 && (t235 == bt238.2.1 && (t236 == bt238.2.2.1 && (t237 == bt238.2.2.2)))) = true then ((rect_Cells.f kj50 t148 t149 t150 t151 4 4).bind fun t242 => ((waveletref01_Same.f kj50 t242 y169).bind fun t245 => (if t245 = true then ((rect_Has.f t148 t149 t150 t151 3 4).bind fun t246 => (some t246)) else (some false)))) else (some false))) = some r := H
              have A99 := Aside0.mk A990
              clear A990
              replace H := Option.bind_eq_some_iff.mp H
              obtain ⟨⟨t238, t239, t240, t241⟩, A1000, H⟩ := H
              replace H : (if (t234 == t238 && (t235 == t239 && (t236 == t240 && (t237 == t241)))) = true then ((rect_Cells.f kj50 t148 t149 t150 t151 4 4).bind fun t242 => ((waveletref01_Same.f kj50 t242 y169).bind fun t245 => (if t245 = true then ((rect_Has.f t148 t149 t150 t151 3 4).bind fun t246 => (some t246)) else (some false)))) else (some false)) = some r := H
              have A100 := Aside0.mk A1000
              clear A1000
              by_cases c101 : (t234 == t238 && (t235 == t239 && (t236 == t240 && (t237 == t241)))) = true
              · rw [if_pos c101] at H
                have c101b0 : (t234 == t238 && (t235 == t239 && (t236 == t240 && (t237 == t241)))) = true := c101
                (try (have c101b1 : decide (t234 = t238 && (t235 == t239 && (t236 == t240 && (t237 == t241)))) = true := by simpa using c101))
                (try (have c101b2 : (t234 == t238 && (t235 == t239 && (t236 == t240 && (t237 == t241)))) = true := by simpa using c101))
                clear c101
                replace H := Option.bind_eq_some_iff.mp H
                obtain ⟨t242, A1020, H⟩ := H
                replace H : ((waveletref01_Same.f kj50 t242 y169).bind fun t245 => (if t245 = true then ((rect_Has.f t148 t149 t150 t151 3 4).bind fun t246 => (some t246)) else (some false))) = some r := H
                have A102 := Aside0.mk A1020
                clear A1020
                replace H := Option.bind_eq_some_iff.mp H
                obtain ⟨t245, A1030, H⟩ := H
                replace H : (if t245 = true then ((rect_Has.f t148 t149 t150 t151 3 4).bind fun t246 => (some t246)) else (some false)) = some r := H
                have A103 := Aside0.mk A1030
                clear A1030
                by_cases c104 : t245 = true
                · subst c104
                  have H1 : ((rect_Has.f t148 t149 t150 t151 3 4).bind fun t246 => (some t246)) = some r := by rw [if_pos rfl] at H; exact H
                  clear H
                  have H := H1
                  clear H1
                  replace H := Option.bind_eq_some_iff.mp H
                  obtain ⟨t246, A1050, H⟩ := H
                  replace H : (some t246) = some r := H
                  have A105 := Aside0.mk A1050
                  clear A1050
                  obtain rfl := Option.some.inj H
                  have hcz106_0 : wc.cell? ⟨gb152, 0, none⟩ = some (.int .i64 t148) := (blk_cell BK152.out 0).trans rfl
                  have hcz106_1 : wc.cell? ⟨gb152, 1, none⟩ = some (.int .i64 t149) := (blk_cell BK152.out 1).trans rfl
                  have hcz106_2 : wc.cell? ⟨gb152, 2, none⟩ = some (.int .i64 t150) := (blk_cell BK152.out 2).trans rfl
                  have hcz106_3 : wc.cell? ⟨gb152, 3, none⟩ = some (.int .i64 t151) := (blk_cell BK152.out 3).trans rfl
                  have hfz106_0 := blk_frozen BK152.out 0
                  have hfz106_1 := blk_frozen BK152.out 1
                  have hfz106_2 := blk_frozen BK152.out 2
                  have hfz106_3 := blk_frozen BK152.out 3
                  go_wp2_with (first | ((with_reducible refine gate_callee (f := 32) rfl ?_); refine goesL_ (some 55) rfl rfl Try.func32 (by kernel_rfl) rfl #[.agg #[.int .i64 t148, .int .i64 t149, .int .i64 t150, .int .i64 t151], .int .i64 2, .int .i64 2] rfl (by (try simp only [List.map_toArray, List.map_cons, List.map_nil]); first | done | rfl | (simp only [List.length_drop, List.length_take]; rfl)) ?_; (with_reducible refine (rect_Reduce.calls kj50 t148 t149 t150 t151 2 2 t234 t235 t236 t237 _ A99.out).mono ?_); rintro e w107 ⟨rfl, hb⟩; refine ⟨_, rfl, ?_⟩; have n0_ := Aside0.mk (Kd.R_below (by (with_reducible repeat (first | apply Kd.R_alloc | apply Kd.R_drewN | apply Kd.R_drew)); exact HO_2.out) hb); have n1_ := Aside0.mk (blk_below (g := gb152) (o := .cells #[.int .i64 t148, .int .i64 t149, .int .i64 t150, .int .i64 t151] 26 (0, 0)) (by (with_reducible repeat (first | refine blk_drewN ?_ _ | refine blk_drew ?_ | refine blk_alloc ?_ _)); exact BK152.out) hb); have n2_ := Aside0.mk (below_step (by repeat (first | (with_reducible first | exact HB.out | apply below_alloc | apply pw_below_drewN | apply below_drew1 | refine below_set ?_ GE152.out) | exact HB.out)) hb); clear HO_2; clear BK152; clear HB; have HO_2 := n0_; have BK152 := n1_; have HB := n2_; clear n0_ n1_ n2_; (try clear hb); (try clear hb2); (try clear hk); (try clear hi)) | ((with_reducible refine gate_callee (f := 38) rfl ?_); refine goesL_ (some 56) rfl rfl Try.func38 (by kernel_rfl) rfl #[.int .i64 2, .int .i64 0, .int .i64 4, .int .i64 3] rfl (by (try simp only [List.map_toArray, List.map_cons, List.map_nil]); first | done | rfl | (simp only [List.length_drop, List.length_take]; rfl)) ?_; (with_reducible refine (waveletlaw01_of.calls 2 0 4 3 t238 t239 t240 t241 _ A100.out).mono ?_); rintro e w108 ⟨rfl, hb⟩; refine ⟨_, rfl, ?_⟩; have n0_ := Aside0.mk (Kd.R_below (by (with_reducible repeat (first | apply Kd.R_alloc | apply Kd.R_drewN | apply Kd.R_drew)); exact HO_2.out) hb); have n1_ := Aside0.mk (blk_below (g := gb152) (o := .cells #[.int .i64 t148, .int .i64 t149, .int .i64 t150, .int .i64 t151] 26 (0, 0)) (by (with_reducible repeat (first | refine blk_drewN ?_ _ | refine blk_drew ?_ | refine blk_alloc ?_ _)); exact BK152.out) hb); have n2_ := Aside0.mk (below_step (by repeat (first | (with_reducible first | exact HB.out | apply below_alloc | apply pw_below_drewN | apply below_drew1 | refine below_set ?_ GE152.out) | exact HB.out)) hb); clear HO_2; clear BK152; clear HB; have HO_2 := n0_; have BK152 := n1_; have HB := n2_; clear n0_ n1_ n2_; (try clear hb); (try clear hb2); (try clear hk); (try clear hi); have hcz109_0 : w108.cell? ⟨gb152, 0, none⟩ = some (.int .i64 t148) := (blk_cell BK152.out 0).trans rfl; have hcz109_1 : w108.cell? ⟨gb152, 1, none⟩ = some (.int .i64 t149) := (blk_cell BK152.out 1).trans rfl; have hcz109_2 : w108.cell? ⟨gb152, 2, none⟩ = some (.int .i64 t150) := (blk_cell BK152.out 2).trans rfl; have hcz109_3 : w108.cell? ⟨gb152, 3, none⟩ = some (.int .i64 t151) := (blk_cell BK152.out 3).trans rfl; have hfz109_0 := blk_frozen BK152.out 0; have hfz109_1 := blk_frozen BK152.out 1; have hfz109_2 := blk_frozen BK152.out 2; have hfz109_3 := blk_frozen BK152.out 3) | (go_at_call 35; (with_reducible refine (rect_Cells.calls kj50 t148 t149 t150 t151 4 4 t242 _ A102.out).mono ?_); rintro e w110 ⟨v243, rfl, ho0, hb⟩; have n0_ := Aside0.mk (Kd.R_elder' (by (with_reducible repeat (first | apply Kd.R_alloc | apply Kd.R_drewN | apply Kd.R_drew)); exact HO_2.out) (Kd.R_base ho0) hb); have n1_ := Aside0.mk (Kd.R_lower (Kd.R_newB (Kd.R_new' ho0 (Kd.R_lt (by (with_reducible repeat (first | apply Kd.R_alloc | apply Kd.R_drewN | apply Kd.R_drew)); exact HO_2.out))) (g := gb152) (o := .cells #[.int .i64 t148, .int .i64 t149, .int .i64 t150, .int .i64 t151] 26 (0, 0)) (by (with_reducible repeat (first | refine blk_drewN ?_ _ | refine blk_drew ?_ | refine blk_alloc ?_ _)); exact BK152.out)) (below_size (by repeat (first | (with_reducible first | exact HB.out | apply below_alloc | apply pw_below_drewN | apply below_drew1 | refine below_set ?_ GE152.out) | exact HB.out)))); have n2_ := Aside0.mk (blk_below (g := gb152) (o := .cells #[.int .i64 t148, .int .i64 t149, .int .i64 t150, .int .i64 t151] 26 (0, 0)) (by (with_reducible repeat (first | refine blk_drewN ?_ _ | refine blk_drew ?_ | refine blk_alloc ?_ _)); exact BK152.out) hb); have n3_ := Aside0.mk (below_step (by repeat (first | (with_reducible first | exact HB.out | apply below_alloc | apply pw_below_drewN | apply below_drew1 | refine below_set ?_ GE152.out) | exact HB.out)) hb); clear HO_2; clear BK152; clear HB; have HO_2 := n0_; have HO244 := n1_; have BK152 := n2_; have HB := n3_; clear n0_ n1_ n2_ n3_; (try clear hb); (try clear hb2); (try clear hk); (try clear hi); (try clear ho0); obtain ⟨Ao111, co111, eo111⟩ := Kd.R_slice HO244.out; subst eo111; obtain ⟨Ao112, co112, eo112⟩ := Kd.R_slice HO_2.out; subst eo112) | (go_at_call 34; (with_reducible refine (waveletref01_Same.calls kj50 _ _ t242 _ _ y169 true _ ?side1 ?side2 ?side3 ?side4 A103.out).mono ?_); (case side1 => repeat (first | exact (Kd.R_reads' HO244.out).2.2 | (with_reducible refine Kd.C_alloc ?_ _) | (with_reducible refine Kd.C_drewN ?_ _) | (with_reducible refine Kd.C_drew ?_))); (case side2 => exact (Kd.R_reads' HO244.out).2.1); (case side3 => repeat (first | exact (Kd.R_reads' HO_2.out).2.2 | (with_reducible refine Kd.C_alloc ?_ _) | (with_reducible refine Kd.C_drewN ?_ _) | (with_reducible refine Kd.C_drew ?_))); (case side4 => exact (Kd.R_reads' HO_2.out).2.1); rintro e w' ⟨rfl, ⟨nd, rfl⟩⟩; have hcz113_0 : w110.cell? ⟨gb152, 0, none⟩ = some (.int .i64 t148) := (blk_cell BK152.out 0).trans rfl; have hcz113_1 : w110.cell? ⟨gb152, 1, none⟩ = some (.int .i64 t149) := (blk_cell BK152.out 1).trans rfl; have hcz113_2 : w110.cell? ⟨gb152, 2, none⟩ = some (.int .i64 t150) := (blk_cell BK152.out 2).trans rfl; have hcz113_3 : w110.cell? ⟨gb152, 3, none⟩ = some (.int .i64 t151) := (blk_cell BK152.out 3).trans rfl; have hfz113_0 := blk_frozen BK152.out 0; have hfz113_1 := blk_frozen BK152.out 1; have hfz113_2 := blk_frozen BK152.out 2; have hfz113_3 := blk_frozen BK152.out 3) | (go_at_call 24; (with_reducible refine (rect_Has.calls t148 t149 t150 t151 3 4 t246 _ A105.out).mono ?_); rintro e w114 ⟨rfl, hb⟩; have n0_ := Aside0.mk (Kd.R_below (by (with_reducible repeat (first | apply Kd.R_alloc | apply Kd.R_drewN | apply Kd.R_drew)); exact HO_2.out) hb); have n1_ := Aside0.mk (Kd.R_below (by (with_reducible repeat (first | apply Kd.R_alloc | apply Kd.R_drewN | apply Kd.R_drew)); exact HO244.out) hb); have n2_ := Aside0.mk (blk_below (g := gb152) (o := .cells #[.int .i64 t148, .int .i64 t149, .int .i64 t150, .int .i64 t151] 26 (0, 0)) (by (with_reducible repeat (first | refine blk_drewN ?_ _ | refine blk_drew ?_ | refine blk_alloc ?_ _)); exact BK152.out) hb); have n3_ := Aside0.mk (below_step (by repeat (first | (with_reducible first | exact HB.out | apply below_alloc | apply pw_below_drewN | apply below_drew1 | refine below_set ?_ GE152.out) | exact HB.out)) hb); clear HO_2; clear HO244; clear BK152; clear HB; have HO_2 := n0_; have HO244 := n1_; have BK152 := n2_; have HB := n3_; clear n0_ n1_ n2_ n3_; (try clear hb); (try clear hb2); (try clear hk); (try clear hi)))
                  go_ret
                  exact ⟨by first | rfl | (simp [errW_none, errW_some] <;> rfl) | (simp [*, errW_none, errW_some] <;> rfl), by repeat (first | (with_reducible first | exact HB.out | apply below_alloc | apply pw_below_drewN | apply below_drew1 | refine below_set ?_ GE152.out) | exact HB.out)⟩
                · replace c104 := Bool.eq_false_iff.mpr c104
                  subst c104
                  have H1 : (some false) = some r := by rw [if_neg (show ¬ (false = true) by decide)] at H; exact H
                  clear H
                  have H := H1
                  clear H1
                  obtain rfl := Option.some.inj H
                  have hcz115_0 : wc.cell? ⟨gb152, 0, none⟩ = some (.int .i64 t148) := (blk_cell BK152.out 0).trans rfl
                  have hcz115_1 : wc.cell? ⟨gb152, 1, none⟩ = some (.int .i64 t149) := (blk_cell BK152.out 1).trans rfl
                  have hcz115_2 : wc.cell? ⟨gb152, 2, none⟩ = some (.int .i64 t150) := (blk_cell BK152.out 2).trans rfl
                  have hcz115_3 : wc.cell? ⟨gb152, 3, none⟩ = some (.int .i64 t151) := (blk_cell BK152.out 3).trans rfl
                  have hfz115_0 := blk_frozen BK152.out 0
                  have hfz115_1 := blk_frozen BK152.out 1
                  have hfz115_2 := blk_frozen BK152.out 2
                  have hfz115_3 := blk_frozen BK152.out 3
                  go_wp2_with (first | ((with_reducible refine gate_callee (f := 32) rfl ?_); refine goesL_ (some 55) rfl rfl Try.func32 (by kernel_rfl) rfl #[.agg #[.int .i64 t148, .int .i64 t149, .int .i64 t150, .int .i64 t151], .int .i64 2, .int .i64 2] rfl (by (try simp only [List.map_toArray, List.map_cons, List.map_nil]); first | done | rfl | (simp only [List.length_drop, List.length_take]; rfl)) ?_; (with_reducible refine (rect_Reduce.calls kj50 t148 t149 t150 t151 2 2 t234 t235 t236 t237 _ A99.out).mono ?_); rintro e w116 ⟨rfl, hb⟩; refine ⟨_, rfl, ?_⟩; have n0_ := Aside0.mk (Kd.R_below (by (with_reducible repeat (first | apply Kd.R_alloc | apply Kd.R_drewN | apply Kd.R_drew)); exact HO_2.out) hb); have n1_ := Aside0.mk (blk_below (g := gb152) (o := .cells #[.int .i64 t148, .int .i64 t149, .int .i64 t150, .int .i64 t151] 26 (0, 0)) (by (with_reducible repeat (first | refine blk_drewN ?_ _ | refine blk_drew ?_ | refine blk_alloc ?_ _)); exact BK152.out) hb); have n2_ := Aside0.mk (below_step (by repeat (first | (with_reducible first | exact HB.out | apply below_alloc | apply pw_below_drewN | apply below_drew1 | refine below_set ?_ GE152.out) | exact HB.out)) hb); clear HO_2; clear BK152; clear HB; have HO_2 := n0_; have BK152 := n1_; have HB := n2_; clear n0_ n1_ n2_; (try clear hb); (try clear hb2); (try clear hk); (try clear hi)) | ((with_reducible refine gate_callee (f := 38) rfl ?_); refine goesL_ (some 56) rfl rfl Try.func38 (by kernel_rfl) rfl #[.int .i64 2, .int .i64 0, .int .i64 4, .int .i64 3] rfl (by (try simp only [List.map_toArray, List.map_cons, List.map_nil]); first | done | rfl | (simp only [List.length_drop, List.length_take]; rfl)) ?_; (with_reducible refine (waveletlaw01_of.calls 2 0 4 3 t238 t239 t240 t241 _ A100.out).mono ?_); rintro e w117 ⟨rfl, hb⟩; refine ⟨_, rfl, ?_⟩; have n0_ := Aside0.mk (Kd.R_below (by (with_reducible repeat (first | apply Kd.R_alloc | apply Kd.R_drewN | apply Kd.R_drew)); exact HO_2.out) hb); have n1_ := Aside0.mk (blk_below (g := gb152) (o := .cells #[.int .i64 t148, .int .i64 t149, .int .i64 t150, .int .i64 t151] 26 (0, 0)) (by (with_reducible repeat (first | refine blk_drewN ?_ _ | refine blk_drew ?_ | refine blk_alloc ?_ _)); exact BK152.out) hb); have n2_ := Aside0.mk (below_step (by repeat (first | (with_reducible first | exact HB.out | apply below_alloc | apply pw_below_drewN | apply below_drew1 | refine below_set ?_ GE152.out) | exact HB.out)) hb); clear HO_2; clear BK152; clear HB; have HO_2 := n0_; have BK152 := n1_; have HB := n2_; clear n0_ n1_ n2_; (try clear hb); (try clear hb2); (try clear hk); (try clear hi); have hcz118_0 : w117.cell? ⟨gb152, 0, none⟩ = some (.int .i64 t148) := (blk_cell BK152.out 0).trans rfl; have hcz118_1 : w117.cell? ⟨gb152, 1, none⟩ = some (.int .i64 t149) := (blk_cell BK152.out 1).trans rfl; have hcz118_2 : w117.cell? ⟨gb152, 2, none⟩ = some (.int .i64 t150) := (blk_cell BK152.out 2).trans rfl; have hcz118_3 : w117.cell? ⟨gb152, 3, none⟩ = some (.int .i64 t151) := (blk_cell BK152.out 3).trans rfl; have hfz118_0 := blk_frozen BK152.out 0; have hfz118_1 := blk_frozen BK152.out 1; have hfz118_2 := blk_frozen BK152.out 2; have hfz118_3 := blk_frozen BK152.out 3) | (go_at_call 35; (with_reducible refine (rect_Cells.calls kj50 t148 t149 t150 t151 4 4 t242 _ A102.out).mono ?_); rintro e w119 ⟨v243, rfl, ho0, hb⟩; have n0_ := Aside0.mk (Kd.R_elder' (by (with_reducible repeat (first | apply Kd.R_alloc | apply Kd.R_drewN | apply Kd.R_drew)); exact HO_2.out) (Kd.R_base ho0) hb); have n1_ := Aside0.mk (Kd.R_lower (Kd.R_newB (Kd.R_new' ho0 (Kd.R_lt (by (with_reducible repeat (first | apply Kd.R_alloc | apply Kd.R_drewN | apply Kd.R_drew)); exact HO_2.out))) (g := gb152) (o := .cells #[.int .i64 t148, .int .i64 t149, .int .i64 t150, .int .i64 t151] 26 (0, 0)) (by (with_reducible repeat (first | refine blk_drewN ?_ _ | refine blk_drew ?_ | refine blk_alloc ?_ _)); exact BK152.out)) (below_size (by repeat (first | (with_reducible first | exact HB.out | apply below_alloc | apply pw_below_drewN | apply below_drew1 | refine below_set ?_ GE152.out) | exact HB.out)))); have n2_ := Aside0.mk (blk_below (g := gb152) (o := .cells #[.int .i64 t148, .int .i64 t149, .int .i64 t150, .int .i64 t151] 26 (0, 0)) (by (with_reducible repeat (first | refine blk_drewN ?_ _ | refine blk_drew ?_ | refine blk_alloc ?_ _)); exact BK152.out) hb); have n3_ := Aside0.mk (below_step (by repeat (first | (with_reducible first | exact HB.out | apply below_alloc | apply pw_below_drewN | apply below_drew1 | refine below_set ?_ GE152.out) | exact HB.out)) hb); clear HO_2; clear BK152; clear HB; have HO_2 := n0_; have HO244 := n1_; have BK152 := n2_; have HB := n3_; clear n0_ n1_ n2_ n3_; (try clear hb); (try clear hb2); (try clear hk); (try clear hi); (try clear ho0); obtain ⟨Ao120, co120, eo120⟩ := Kd.R_slice HO244.out; subst eo120; obtain ⟨Ao121, co121, eo121⟩ := Kd.R_slice HO_2.out; subst eo121) | (go_at_call 34; (with_reducible refine (waveletref01_Same.calls kj50 _ _ t242 _ _ y169 false _ ?side1 ?side2 ?side3 ?side4 A103.out).mono ?_); (case side1 => repeat (first | exact (Kd.R_reads' HO244.out).2.2 | (with_reducible refine Kd.C_alloc ?_ _) | (with_reducible refine Kd.C_drewN ?_ _) | (with_reducible refine Kd.C_drew ?_))); (case side2 => exact (Kd.R_reads' HO244.out).2.1); (case side3 => repeat (first | exact (Kd.R_reads' HO_2.out).2.2 | (with_reducible refine Kd.C_alloc ?_ _) | (with_reducible refine Kd.C_drewN ?_ _) | (with_reducible refine Kd.C_drew ?_))); (case side4 => exact (Kd.R_reads' HO_2.out).2.1); rintro e w' ⟨rfl, ⟨nd, rfl⟩⟩))
                  go_ret
                  exact ⟨by first | rfl | (simp [errW_none, errW_some] <;> rfl) | (simp [*, errW_none, errW_some] <;> rfl), by repeat (first | (with_reducible first | exact HB.out | apply below_alloc | apply pw_below_drewN | apply below_drew1 | refine below_set ?_ GE152.out) | exact HB.out)⟩
              · rw [if_neg c101] at H
                have c101b0 : (t234 == t238 && (t235 == t239 && (t236 == t240 && (t237 == t241)))) = false := by simpa using c101
                (try (have c101b1 : decide (t234 = t238 && (t235 == t239 && (t236 == t240 && (t237 == t241)))) = false := by simpa using c101))
                (try (have c101b2 : (t234 == t238 && (t235 == t239 && (t236 == t240 && (t237 == t241)))) = false := by simpa using c101))
                (try (have c101b3 : ¬ (t234 = t238 && (t235 == t239 && (t236 == t240 && (t237 == t241)))) := by simpa using c101))
                clear c101
                obtain rfl := Option.some.inj H
                have hcz122_0 : wc.cell? ⟨gb152, 0, none⟩ = some (.int .i64 t148) := (blk_cell BK152.out 0).trans rfl
                have hcz122_1 : wc.cell? ⟨gb152, 1, none⟩ = some (.int .i64 t149) := (blk_cell BK152.out 1).trans rfl
                have hcz122_2 : wc.cell? ⟨gb152, 2, none⟩ = some (.int .i64 t150) := (blk_cell BK152.out 2).trans rfl
                have hcz122_3 : wc.cell? ⟨gb152, 3, none⟩ = some (.int .i64 t151) := (blk_cell BK152.out 3).trans rfl
                have hfz122_0 := blk_frozen BK152.out 0
                have hfz122_1 := blk_frozen BK152.out 1
                have hfz122_2 := blk_frozen BK152.out 2
                have hfz122_3 := blk_frozen BK152.out 3
                go_wp2_with (first | ((with_reducible refine gate_callee (f := 32) rfl ?_); refine goesL_ (some 55) rfl rfl Try.func32 (by kernel_rfl) rfl #[.agg #[.int .i64 t148, .int .i64 t149, .int .i64 t150, .int .i64 t151], .int .i64 2, .int .i64 2] rfl (by (try simp only [List.map_toArray, List.map_cons, List.map_nil]); first | done | rfl | (simp only [List.length_drop, List.length_take]; rfl)) ?_; (with_reducible refine (rect_Reduce.calls kj50 t148 t149 t150 t151 2 2 t234 t235 t236 t237 _ A99.out).mono ?_); rintro e w123 ⟨rfl, hb⟩; refine ⟨_, rfl, ?_⟩; have n0_ := Aside0.mk (Kd.R_below (by (with_reducible repeat (first | apply Kd.R_alloc | apply Kd.R_drewN | apply Kd.R_drew)); exact HO_2.out) hb); have n1_ := Aside0.mk (blk_below (g := gb152) (o := .cells #[.int .i64 t148, .int .i64 t149, .int .i64 t150, .int .i64 t151] 26 (0, 0)) (by (with_reducible repeat (first | refine blk_drewN ?_ _ | refine blk_drew ?_ | refine blk_alloc ?_ _)); exact BK152.out) hb); have n2_ := Aside0.mk (below_step (by repeat (first | (with_reducible first | exact HB.out | apply below_alloc | apply pw_below_drewN | apply below_drew1 | refine below_set ?_ GE152.out) | exact HB.out)) hb); clear HO_2; clear BK152; clear HB; have HO_2 := n0_; have BK152 := n1_; have HB := n2_; clear n0_ n1_ n2_; (try clear hb); (try clear hb2); (try clear hk); (try clear hi)) | ((with_reducible refine gate_callee (f := 38) rfl ?_); refine goesL_ (some 56) rfl rfl Try.func38 (by kernel_rfl) rfl #[.int .i64 2, .int .i64 0, .int .i64 4, .int .i64 3] rfl (by (try simp only [List.map_toArray, List.map_cons, List.map_nil]); first | done | rfl | (simp only [List.length_drop, List.length_take]; rfl)) ?_; (with_reducible refine (waveletlaw01_of.calls 2 0 4 3 t238 t239 t240 t241 _ A100.out).mono ?_); rintro e w124 ⟨rfl, hb⟩; refine ⟨_, rfl, ?_⟩; have n0_ := Aside0.mk (Kd.R_below (by (with_reducible repeat (first | apply Kd.R_alloc | apply Kd.R_drewN | apply Kd.R_drew)); exact HO_2.out) hb); have n1_ := Aside0.mk (blk_below (g := gb152) (o := .cells #[.int .i64 t148, .int .i64 t149, .int .i64 t150, .int .i64 t151] 26 (0, 0)) (by (with_reducible repeat (first | refine blk_drewN ?_ _ | refine blk_drew ?_ | refine blk_alloc ?_ _)); exact BK152.out) hb); have n2_ := Aside0.mk (below_step (by repeat (first | (with_reducible first | exact HB.out | apply below_alloc | apply pw_below_drewN | apply below_drew1 | refine below_set ?_ GE152.out) | exact HB.out)) hb); clear HO_2; clear BK152; clear HB; have HO_2 := n0_; have BK152 := n1_; have HB := n2_; clear n0_ n1_ n2_; (try clear hb); (try clear hb2); (try clear hk); (try clear hi)))
                go_ret
                exact ⟨by first | rfl | (simp [errW_none, errW_some] <;> rfl) | (simp [*, errW_none, errW_some] <;> rfl), by repeat (first | (with_reducible first | exact HB.out | apply below_alloc | apply pw_below_drewN | apply below_drew1 | refine below_set ?_ GE152.out) | exact HB.out)⟩

end Go.Proofs.Ytibaclnknialbaa.Q
