-- By a program of this session (wip/tools/mk.py), out of the kit's print of the translation; Lean checks it.
import Derived.Test.YthemchggmlpdhaaUp2
import Derived.Test.YthemchggmlpdhaaUp
import Derived.Test.YthemchggmlpdhaaQ0
import Derived.Test.YthemchggmlpdhaaQ4
import Derived.Test.YthemchggmlpdhaaQ7
import Derived.Test.YthemchggmlpdhaaQ8
import Derived.Test.YthemchggmlpdhaaQ9
import Derived.Test.YthemchggmlpdhaaQ12
import Derived.Test.YthemchggmlpdhaaQ13
import Derived.Test.YthemchggmlpdhaaQ14
import Derived.Test.YthemchggmlpdhaaQ19
import Derived.Test.YthemchggmlpdhaaQ20
import Derived.Test.YthemchggmlpdhaaQ21
import Derived.Test.YthemchggmlpdhaaQ22
import Derived.Test.YthemchggmlpdhaaQ23
import Derived.Test.YthemchggmlpdhaaQ24
namespace Go.Proofs.Ythemchggmlpdhaa.Q
open Go.RowKit Go.Proofs.YthemchggmlpdhaaW.PrintWords Go.Proofs.YthemchggmlpdhaaW.PrintLast Go.Proofs.YthemchggmlpdhaaW.PrintMore
attribute [local go_sem] max2_int min2_int max_two min_two max_three min_three max_four min_four   -- for this text's walks alone
set_option linter.unusedVariables false
set_option linter.unusedSimpArgs false

/-! ### waveletlaw02_exampleHolds: function 14 -/
mutual
def waveletlaw02_exampleHolds.j0 : Nat → Bool → Int → Int → Int → Int → List Int → Option (Bool)
 | 0, _, _, _, _, _, _ => none
 | k + 1, x75, x231000, x231001, x231002, x231003, x231004 => if x75 = true then (some false) else ((plane_Crop.f k x231000 x231001 x231002 x231003 x231004 4 1 5 3).bind fun bt261 => ((waveletlaw02_of.f 4 2 9 3 (([7, 8, 8, 8, 8] : List Int))).bind fun bt273 => ((plane_Paste.f k x231000 x231001 x231002 x231003 x231004 bt273.1 bt273.2.1 bt273.2.2.1 bt273.2.2.2.1 bt273.2.2.2.2).bind fun bt280 => ((plane_Clip.f k x231000 x231001 x231002 x231003 x231004 2 3).bind fun bt289 => (if bt261.2.2.2.2.2 = 0 then (if bt280.2.2.2.2.2 = 0 then (if bt289.2.2.2.2.2 = 0 then ((waveletref02_SameInts.f k bt261.2.2.2.2.1 (([2, 4] : List Int))).bind fun t301 => (if t301 = true then ((waveletref02_SameInts.f k bt280.2.2.2.2.1 (([1, 2, 3, 7] : List Int))).bind fun t305 => (if t305 = true then ((waveletref02_SameInts.f k bt289.2.2.2.2.1 (([2, 2, 3, 3] : List Int))).bind fun t309 => (waveletlaw02_exampleHolds.j1 k (!t309) x231000 x231001 x231002 x231003 x231004 bt289.1 bt289.2.1 bt289.2.2.1 bt289.2.2.2.1 bt289.2.2.2.2.1)) else (waveletlaw02_exampleHolds.j1 k true x231000 x231001 x231002 x231003 x231004 bt289.1 bt289.2.1 bt289.2.2.1 bt289.2.2.2.1 bt289.2.2.2.2.1))) else (waveletlaw02_exampleHolds.j1 k true x231000 x231001 x231002 x231003 x231004 bt289.1 bt289.2.1 bt289.2.2.1 bt289.2.2.2.1 bt289.2.2.2.2.1))) else (waveletlaw02_exampleHolds.j1 k true x231000 x231001 x231002 x231003 x231004 bt289.1 bt289.2.1 bt289.2.2.1 bt289.2.2.2.1 bt289.2.2.2.2.1)) else (waveletlaw02_exampleHolds.j1 k true x231000 x231001 x231002 x231003 x231004 bt289.1 bt289.2.1 bt289.2.2.1 bt289.2.2.2.1 bt289.2.2.2.2.1)) else (waveletlaw02_exampleHolds.j1 k true x231000 x231001 x231002 x231003 x231004 bt289.1 bt289.2.1 bt289.2.2.1 bt289.2.2.2.1 bt289.2.2.2.2.1))))))
def waveletlaw02_exampleHolds.j1 : Nat → Bool → Int → Int → Int → Int → List Int → Int → Int → Int → Int → List Int → Option (Bool)
 | 0, _, _, _, _, _, _, _, _, _, _, _ => none
 | k + 1, x124, x231000, x231001, x231002, x231003, x231004, x298000, x298001, x298002, x298003, x298004 => if x124 = true then (some false) else ((plane_Limits.f k x231000 x231001 x231002 x231003 x231004).bind fun bt310 => ((waveletlaw02_of.f 0 0 2 2 (([1, 2, 3] : List Int))).bind fun bt316 => ((plane_Crop.f k bt316.1 bt316.2.1 bt316.2.2.1 bt316.2.2.2.1 bt316.2.2.2.2 5 0 0 0).bind fun bt323 => ((plane_New.f 0 0 4096 4096).bind fun bt332 => ((plane_New.f 1 1 3 2).bind fun bt341 => (if bt310.1 = 1 then (if bt310.2.1 = 4 then (if bt310.2.2 = true then (if bt323.2.2.2.2.2 = 1 then (if bt332.2.2.2.2.2 = 5 then (if bt341.2.2.2.2.2 = 0 then ((waveletlaw02_of.f 1 1 3 2 (([0, 0] : List Int))).bind fun bt353 => ((waveletref02_Same.f k bt341.1 bt341.2.1 bt341.2.2.1 bt341.2.2.2.1 bt341.2.2.2.2.1 bt353.1 bt353.2.1 bt353.2.2.1 bt353.2.2.2.1 bt353.2.2.2.2).bind fun t360 => (if t360 = true then ((plane_Same.f k x231000 x231001 x231002 x231003 x231004 x231000 x231001 x231002 x231003 x231004).bind fun t361 => (if t361 = true then ((plane_Same.f k x231000 x231001 x231002 x231003 x231004 x298000 x298001 x298002 x298003 x298004).bind fun t362 => (some (!t362))) else (some false))) else (some false)))) else (some false)) else (some false)) else (some false)) else (some false)) else (some false)) else (some false)))))))
end
def waveletlaw02_exampleHolds.f (k : Nat)  : Option (Bool) := (waveletlaw02_of.f 3 1 5 3 (([1, 2, 3, 4] : List Int))).bind fun bt223 => ((plane_At.f bt223.1 bt223.2.1 bt223.2.2.1 bt223.2.2.2.1 bt223.2.2.2.2 4 2).bind fun bt231 => ((plane_Row.f k bt223.1 bt223.2.1 bt223.2.2.1 bt223.2.2.2.1 bt223.2.2.2.2 2).bind fun bt233 => ((plane_Column.f k bt223.1 bt223.2.1 bt223.2.2.1 bt223.2.2.2.1 bt223.2.2.2.2 3).bind fun bt237 => (if bt231.1 = 4 then (if bt231.2 = true then (if bt233.2 = true then (if bt237.2 = true then ((waveletref02_SameInts.f k bt233.1 (([3, 4] : List Int))).bind fun t244 => (if t244 = true then ((waveletref02_SameInts.f k bt237.1 (([1, 3] : List Int))).bind fun t248 => (if t248 = true then ((plane_Valid.f bt223.1 bt223.2.1 bt223.2.2.1 bt223.2.2.2.1 bt223.2.2.2.2).bind fun t249 => (if t249 = true then ((waveletlaw02_of.f 0 0 2 2 (([1, 2, 3] : List Int))).bind fun bt253 => ((plane_Valid.f bt253.1 bt253.2.1 bt253.2.2.1 bt253.2.2.2.1 bt253.2.2.2.2).bind fun t260 => (waveletlaw02_exampleHolds.j0 k t260 bt223.1 bt223.2.1 bt223.2.2.1 bt223.2.2.2.1 bt223.2.2.2.2))) else (waveletlaw02_exampleHolds.j0 k true bt223.1 bt223.2.1 bt223.2.2.1 bt223.2.2.2.1 bt223.2.2.2.2))) else (waveletlaw02_exampleHolds.j0 k true bt223.1 bt223.2.1 bt223.2.2.1 bt223.2.2.2.1 bt223.2.2.2.2))) else (waveletlaw02_exampleHolds.j0 k true bt223.1 bt223.2.1 bt223.2.2.1 bt223.2.2.2.1 bt223.2.2.2.2))) else (waveletlaw02_exampleHolds.j0 k true bt223.1 bt223.2.1 bt223.2.2.1 bt223.2.2.2.1 bt223.2.2.2.2)) else (waveletlaw02_exampleHolds.j0 k true bt223.1 bt223.2.1 bt223.2.2.1 bt223.2.2.2.1 bt223.2.2.2.2)) else (waveletlaw02_exampleHolds.j0 k true bt223.1 bt223.2.1 bt223.2.2.1 bt223.2.2.2.1 bt223.2.2.2.2)) else (waveletlaw02_exampleHolds.j0 k true bt223.1 bt223.2.1 bt223.2.2.1 bt223.2.2.2.1 bt223.2.2.2.2)))))
theorem waveletlaw02_exampleHolds.mono_l : ∀ k, (∀ y0 y1 y2 y3 y4 y5, LeO (waveletlaw02_exampleHolds.j0 k y0 y1 y2 y3 y4 y5) (waveletlaw02_exampleHolds.j0 (k + 1) y0 y1 y2 y3 y4 y5)) ∧ (∀ y0 y1 y2 y3 y4 y5 y6 y7 y8 y9 y10, LeO (waveletlaw02_exampleHolds.j1 k y0 y1 y2 y3 y4 y5 y6 y7 y8 y9 y10) (waveletlaw02_exampleHolds.j1 (k + 1) y0 y1 y2 y3 y4 y5 y6 y7 y8 y9 y10))
 | 0 => ⟨fun _ _ _ _ _ _ r h => by simp [waveletlaw02_exampleHolds.j0] at h, fun _ _ _ _ _ _ _ _ _ _ _ r h => by simp [waveletlaw02_exampleHolds.j1] at h⟩
 | k + 1 => by
  obtain ⟨ih0, ih1⟩ := waveletlaw02_exampleHolds.mono_l k
  refine ⟨?_, ?_⟩
  ·intro y0 y1 y2 y3 y4 y5
   unfold waveletlaw02_exampleHolds.j0
   repeat' first
   | (with_reducible exact ih0 _ _ _ _ _ _)
   | (with_reducible exact ih1 _ _ _ _ _ _ _ _ _ _ _)
   | (with_reducible exact plane_Clip.mono _ _ _ _ _ _ _ _)
   | (with_reducible exact plane_Column.mono _ _ _ _ _ _ _)
   | (with_reducible exact plane_Crop.mono _ _ _ _ _ _ _ _ _ _)
   | (with_reducible exact plane_Limits.mono _ _ _ _ _ _)
   | (with_reducible exact plane_Paste.mono _ _ _ _ _ _ _ _ _ _ _)
   | (with_reducible exact plane_Row.mono _ _ _ _ _ _ _)
   | (with_reducible exact plane_Same.mono _ _ _ _ _ _ _ _ _ _ _)
   | (with_reducible exact waveletref02_Same.mono _ _ _ _ _ _ _ _ _ _ _)
   | (with_reducible exact waveletref02_SameInts.mono _ _ _)
   | (with_reducible exact LeO.refl _)
   | (with_reducible exact LeO.none _)
   | (with_reducible refine LeO.ite ?_ ?_)
   | (with_reducible refine LeO.bind ?_ (fun _ => ?_))
   | exact ih0 _ _ _ _ _ _
   | exact ih1 _ _ _ _ _ _ _ _ _ _ _
   | exact plane_Clip.mono _ _ _ _ _ _ _ _
   | exact plane_Column.mono _ _ _ _ _ _ _
   | exact plane_Crop.mono _ _ _ _ _ _ _ _ _ _
   | exact plane_Limits.mono _ _ _ _ _ _
   | exact plane_Paste.mono _ _ _ _ _ _ _ _ _ _ _
   | exact plane_Row.mono _ _ _ _ _ _ _
   | exact plane_Same.mono _ _ _ _ _ _ _ _ _ _ _
   | exact waveletref02_Same.mono _ _ _ _ _ _ _ _ _ _ _
   | exact waveletref02_SameInts.mono _ _ _
   | exact LeO.none _
   | refine LeO.ite ?_ ?_
   | refine LeO.bind ?_ (fun _ => ?_)
  ·intro y0 y1 y2 y3 y4 y5 y6 y7 y8 y9 y10
   unfold waveletlaw02_exampleHolds.j1
   repeat' first
   | (with_reducible exact ih0 _ _ _ _ _ _)
   | (with_reducible exact ih1 _ _ _ _ _ _ _ _ _ _ _)
   | (with_reducible exact plane_Clip.mono _ _ _ _ _ _ _ _)
   | (with_reducible exact plane_Column.mono _ _ _ _ _ _ _)
   | (with_reducible exact plane_Crop.mono _ _ _ _ _ _ _ _ _ _)
   | (with_reducible exact plane_Limits.mono _ _ _ _ _ _)
   | (with_reducible exact plane_Paste.mono _ _ _ _ _ _ _ _ _ _ _)
   | (with_reducible exact plane_Row.mono _ _ _ _ _ _ _)
   | (with_reducible exact plane_Same.mono _ _ _ _ _ _ _ _ _ _ _)
   | (with_reducible exact waveletref02_Same.mono _ _ _ _ _ _ _ _ _ _ _)
   | (with_reducible exact waveletref02_SameInts.mono _ _ _)
   | (with_reducible exact LeO.refl _)
   | (with_reducible exact LeO.none _)
   | (with_reducible refine LeO.ite ?_ ?_)
   | (with_reducible refine LeO.bind ?_ (fun _ => ?_))
   | exact ih0 _ _ _ _ _ _
   | exact ih1 _ _ _ _ _ _ _ _ _ _ _
   | exact plane_Clip.mono _ _ _ _ _ _ _ _
   | exact plane_Column.mono _ _ _ _ _ _ _
   | exact plane_Crop.mono _ _ _ _ _ _ _ _ _ _
   | exact plane_Limits.mono _ _ _ _ _ _
   | exact plane_Paste.mono _ _ _ _ _ _ _ _ _ _ _
   | exact plane_Row.mono _ _ _ _ _ _ _
   | exact plane_Same.mono _ _ _ _ _ _ _ _ _ _ _
   | exact waveletref02_Same.mono _ _ _ _ _ _ _ _ _ _ _
   | exact waveletref02_SameInts.mono _ _ _
   | exact LeO.none _
   | refine LeO.ite ?_ ?_
   | refine LeO.bind ?_ (fun _ => ?_)
theorem waveletlaw02_exampleHolds.mono : ∀ k, LeO (waveletlaw02_exampleHolds.f k ) (waveletlaw02_exampleHolds.f (k + 1) ) := by
 intro  k
 obtain ⟨ih0, ih1⟩ := waveletlaw02_exampleHolds.mono_l k
 unfold waveletlaw02_exampleHolds.f
 repeat' first
   | (with_reducible exact ih0 _ _ _ _ _ _)
   | (with_reducible exact ih1 _ _ _ _ _ _ _ _ _ _ _)
   | (with_reducible exact plane_Clip.mono _ _ _ _ _ _ _ _)
   | (with_reducible exact plane_Column.mono _ _ _ _ _ _ _)
   | (with_reducible exact plane_Crop.mono _ _ _ _ _ _ _ _ _ _)
   | (with_reducible exact plane_Limits.mono _ _ _ _ _ _)
   | (with_reducible exact plane_Paste.mono _ _ _ _ _ _ _ _ _ _ _)
   | (with_reducible exact plane_Row.mono _ _ _ _ _ _ _)
   | (with_reducible exact plane_Same.mono _ _ _ _ _ _ _ _ _ _ _)
   | (with_reducible exact waveletref02_Same.mono _ _ _ _ _ _ _ _ _ _ _)
   | (with_reducible exact waveletref02_SameInts.mono _ _ _)
   | (with_reducible exact LeO.refl _)
   | (with_reducible exact LeO.none _)
   | (with_reducible refine LeO.ite ?_ ?_)
   | (with_reducible refine LeO.bind ?_ (fun _ => ?_))
   | exact ih0 _ _ _ _ _ _
   | exact ih1 _ _ _ _ _ _ _ _ _ _ _
   | exact plane_Clip.mono _ _ _ _ _ _ _ _
   | exact plane_Column.mono _ _ _ _ _ _ _
   | exact plane_Crop.mono _ _ _ _ _ _ _ _ _ _
   | exact plane_Limits.mono _ _ _ _ _ _
   | exact plane_Paste.mono _ _ _ _ _ _ _ _ _ _ _
   | exact plane_Row.mono _ _ _ _ _ _ _
   | exact plane_Same.mono _ _ _ _ _ _ _ _ _ _ _
   | exact waveletref02_Same.mono _ _ _ _ _ _ _ _ _ _ _
   | exact waveletref02_SameInts.mono _ _ _
   | exact LeO.none _
   | refine LeO.ite ?_ ?_
   | refine LeO.bind ?_ (fun _ => ?_)
def waveletlaw02_exampleHolds.T8 : Bool × List (List Nat × List Nat) := (true, [([], []), ([], []), ([1], [1]), ([0, 2, 2], [0, 2]), ([3], [3]), ([4], [4]), ([4], [4]), ([], []), ([7, 5, 3, 0, 1, 2, 3, 4, 5, 7], [5, 7]), ([6, 8, 0, 1, 2, 3, 4, 5, 6, 7, 8], [6])])
def waveletlaw02_exampleHolds.B8 : List Nat := [0, 0, 2, 7, 15, 31, 31, 0, 191, 511]
theorem waveletlaw02_exampleHolds.tab8 : rtab .any (opsOf Try.f14 8) = waveletlaw02_exampleHolds.T8 := by kernel_rfl
theorem waveletlaw02_exampleHolds.bits8 : waitsOk waveletlaw02_exampleHolds.T8.2 waveletlaw02_exampleHolds.B8 = true := by kernel_rfl
def waveletlaw02_exampleHolds.T16 : Bool × List (List Nat × List Nat) := (true, [([], []), ([0], [0]), ([1], [1]), ([2], [2]), ([3, 2], [2, 3]), ([2, 4], [2, 4]), ([5, 2], [5]), ([6], [6]), ([6, 7], [6, 7]), ([8, 6], [8]), ([9], [9]), ([10, 9], [9, 10]), ([9, 11], [9, 11]), ([12, 9], [12]), ([13], [13]), ([14, 13], [13, 14]), ([13, 15], [13, 15]), ([16, 13], [16]), ([17], [17]), ([18, 17], [17, 18]), ([17, 19], [17, 19]), ([20, 17], [20]), ([21], [21]), ([21], [21]), ([23, 21, 21], [21, 23]), ([22, 24, 24, 21], [21, 22, 24]), ([21, 25], [21, 25]), ([26, 25], [26]), ([27], [27]), ([27], [27]), ([28, 29, 27, 27], [27, 28, 29]), ([27, 30], [27, 30]), ([31, 30], [31]), ([32], [32]), ([32], [32]), ([33, 34, 32, 32], [32, 33, 34]), ([35, 32], [32, 35]), ([32, 36], [32, 36]), ([37, 35, 0, 1, 2, 3, 4, 5, 6, 7, 8, 9, 10, 11, 12, 13, 14, 15, 16, 17, 18, 19, 20, 21, 22, 23, 24, 25, 26, 27, 28, 29, 30, 31, 32, 33, 34, 35, 36, 37], [37])])
def waveletlaw02_exampleHolds.B16 : List Nat := [0, 1, 3, 7, 15, 31, 63, 127, 255, 511, 1023, 2047, 4095, 8191, 16383, 32767, 65535, 131071, 262143, 524287, 1048575, 2097151, 4194303, 4194303, 12582911, 33554431, 67108863, 134217727, 268435455, 268435455, 1073741823, 2147483647, 4294967295, 8589934591, 8589934591, 34359738367, 68719476735, 137438953471, 274877906943]
theorem waveletlaw02_exampleHolds.tab16 : rtab .any (opsOf Try.f14 16) = waveletlaw02_exampleHolds.T16 := by kernel_rfl
theorem waveletlaw02_exampleHolds.bits16 : waitsOk waveletlaw02_exampleHolds.T16.2 waveletlaw02_exampleHolds.B16 = true := by kernel_rfl
end Go.Proofs.Ythemchggmlpdhaa.Q
