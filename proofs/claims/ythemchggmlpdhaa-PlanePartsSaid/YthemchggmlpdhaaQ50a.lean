-- By a program of this session (wip/tools/mk.py), out of the kit's print of the translation; Lean checks it.
import Derived.Test.YthemchggmlpdhaaUp2
import Derived.Test.YthemchggmlpdhaaUp
import Derived.Test.YthemchggmlpdhaaQ0
import Derived.Test.YthemchggmlpdhaaQ1
import Derived.Test.YthemchggmlpdhaaQ8
import Derived.Test.YthemchggmlpdhaaQ19
import Derived.Test.YthemchggmlpdhaaQ20
import Derived.Test.YthemchggmlpdhaaQ25
import Derived.Test.YthemchggmlpdhaaQ37
import Derived.Test.YthemchggmlpdhaaQ47
namespace Go.Proofs.Ythemchggmlpdhaa.Q
open Go.RowKit Go.Proofs.YthemchggmlpdhaaW.PrintWords Go.Proofs.YthemchggmlpdhaaW.PrintLast Go.Proofs.YthemchggmlpdhaaW.PrintMore
attribute [local go_sem] max2_int min2_int max_two min_two max_three min_three max_four min_four   -- for this text's walks alone
set_option linter.unusedVariables false
set_option linter.unusedSimpArgs false

attribute [local go_sem high] eqA23
/-! ### waveletlaw02_PlaneParts: function 9 -/
mutual
def waveletlaw02_PlaneParts.j0 : Nat → Bool → Int → Int → Int → Int → List Int → Int → Int → Int → Int → List Int → Int → Int → Int → Int → Int → Int → Int → Int → Option (Bool)
 | 0, _, _, _, _, _, _, _, _, _, _, _, _, _, _, _, _, _, _, _ => none
 | k + 1, x34, x659000, x659001, x659002, x659003, x659004, x660000, x660001, x660002, x660003, x660004, x662000, x662001, x662002, x662003, x663000, x663001, x663002, x663003 => if x34 = true then ((waveletlaw02_exampleHolds.f k).bind fun t665 => (some t665)) else ((plane_Crop.f k x659000 x659001 x659002 x659003 x659004 x659000 x659001 x659002 x659003).bind fun bt666 => (if bt666.2.2.2.2.2 = 0 then ((waveletref02_Same.f k bt666.1 bt666.2.1 bt666.2.2.1 bt666.2.2.2.1 bt666.2.2.2.2.1 x659000 x659001 x659002 x659003 x659004).bind fun t675 => (waveletlaw02_PlaneParts.j1 k (!t675) x659000 x659001 x659002 x659003 x659004 x660000 x660001 x660002 x660003 x660004 x662000 x662001 x662002 x662003 x663000 x663001 x663002 x663003)) else (waveletlaw02_PlaneParts.j1 k true x659000 x659001 x659002 x659003 x659004 x660000 x660001 x660002 x660003 x660004 x662000 x662001 x662002 x662003 x663000 x663001 x663002 x663003)))
def waveletlaw02_PlaneParts.j1 : Nat → Bool → Int → Int → Int → Int → List Int → Int → Int → Int → Int → List Int → Int → Int → Int → Int → Int → Int → Int → Int → Option (Bool)
 | 0, _, _, _, _, _, _, _, _, _, _, _, _, _, _, _, _, _, _, _ => none
 | k + 1, x50, x659000, x659001, x659002, x659003, x659004, x660000, x660001, x660002, x660003, x660004, x662000, x662001, x662002, x662003, x663000, x663001, x663002, x663003 => if x50 = true then (some false) else ((plane_Paste.f k x659000 x659001 x659002 x659003 x659004 x660000 x660001 x660002 x660003 x660004).bind fun bt676 => (if bt676.2.2.2.2.2 = 0 then (waveletlaw02_PlaneParts.j2 k (!(bt676.1 == x659000) || (!(bt676.2.1 == x659001) || (!(bt676.2.2.1 == x659002) || (!(bt676.2.2.2.1 == x659003))))) x659000 x659001 x659002 x659003 x659004 x660000 x660001 x660002 x660003 x660004 x662000 x662001 x662002 x662003 x663000 x663001 x663002 x663003 bt676.1 bt676.2.1 bt676.2.2.1 bt676.2.2.2.1 bt676.2.2.2.2.1) else (waveletlaw02_PlaneParts.j2 k true x659000 x659001 x659002 x659003 x659004 x660000 x660001 x660002 x660003 x660004 x662000 x662001 x662002 x662003 x663000 x663001 x663002 x663003 bt676.1 bt676.2.1 bt676.2.2.1 bt676.2.2.2.1 bt676.2.2.2.2.1)))
def waveletlaw02_PlaneParts.j2 : Nat → Bool → Int → Int → Int → Int → List Int → Int → Int → Int → Int → List Int → Int → Int → Int → Int → Int → Int → Int → Int → Int → Int → Int → Int → List Int → Option (Bool)
 | 0, _, _, _, _, _, _, _, _, _, _, _, _, _, _, _, _, _, _, _, _, _, _, _, _ => none
 | k + 1, x65, x659000, x659001, x659002, x659003, x659004, x660000, x660001, x660002, x660003, x660004, x662000, x662001, x662002, x662003, x663000, x663001, x663002, x663003, x685000, x685001, x685002, x685003, x685004 => if x65 = true then (some false) else ((waveletref01_Contains.f x659000 x659001 x659002 x659003 x660000 x660001 x660002 x660003).bind fun t685 => (if t685 = true then ((plane_Crop.f k x685000 x685001 x685002 x685003 x685004 x660000 x660001 x660002 x660003).bind fun bt686 => (if bt686.2.2.2.2.2 = 0 then ((waveletref02_Same.f k bt686.1 bt686.2.1 bt686.2.2.1 bt686.2.2.2.1 bt686.2.2.2.2.1 x660000 x660001 x660002 x660003 x660004).bind fun t695 => (if t695 = true then (waveletlaw02_PlaneParts.j3 k x659000 x659001 x659002 x659003 x659004 x662000 x662001 x662002 x662003 x663000 x663001 x663002 x663003) else (some false))) else (some false))) else (waveletlaw02_PlaneParts.j3 k x659000 x659001 x659002 x659003 x659004 x662000 x662001 x662002 x662003 x663000 x663001 x663002 x663003)))
def waveletlaw02_PlaneParts.j3 : Nat → Int → Int → Int → Int → List Int → Int → Int → Int → Int → Int → Int → Int → Int → Option (Bool)
 | 0, _, _, _, _, _, _, _, _, _, _, _, _, _ => none
 | k + 1, x659000, x659001, x659002, x659003, x659004, x662000, x662001, x662002, x662003, x663000, x663001, x663002, x663003 => (plane_Crop.f k x659000 x659001 x659002 x659003 x659004 x662000 x662001 x662002 x662003).bind fun bt696 => (if bt696.2.2.2.2.2 = 0 then ((plane_Paste.f k x659000 x659001 x659002 x659003 x659004 bt696.1 bt696.2.1 bt696.2.2.1 bt696.2.2.2.1 bt696.2.2.2.2.1).bind fun bt706 => ((plane_Crop.f k bt696.1 bt696.2.1 bt696.2.2.1 bt696.2.2.2.1 bt696.2.2.2.2.1 x663000 x663001 x663002 x663003).bind fun bt715 => (if bt706.2.2.2.2.2 = 0 then ((waveletref02_Same.f k bt706.1 bt706.2.1 bt706.2.2.1 bt706.2.2.2.1 bt706.2.2.2.2.1 x659000 x659001 x659002 x659003 x659004).bind fun t724 => (waveletlaw02_PlaneParts.j4 k bt715.2.2.2.2.2 (!t724) x659000 x659001 x659002 x659003 x659004 x663000 x663001 x663002 x663003 bt715.1 bt715.2.1 bt715.2.2.1 bt715.2.2.2.1 bt715.2.2.2.2.1)) else (waveletlaw02_PlaneParts.j4 k bt715.2.2.2.2.2 true x659000 x659001 x659002 x659003 x659004 x663000 x663001 x663002 x663003 bt715.1 bt715.2.1 bt715.2.2.1 bt715.2.2.2.1 bt715.2.2.2.2.1)))) else ((waveletlaw02_exampleHolds.f k).bind fun t705 => (some t705)))
def waveletlaw02_PlaneParts.j4 : Nat → Int → Bool → Int → Int → Int → Int → List Int → Int → Int → Int → Int → Int → Int → Int → Int → List Int → Option (Bool)
 | 0, _, _, _, _, _, _, _, _, _, _, _, _, _, _, _, _ => none
 | k + 1, x20, x114, x659000, x659001, x659002, x659003, x659004, x663000, x663001, x663002, x663003, x724000, x724001, x724002, x724003, x724004 => if x114 = true then (some false) else (if x20 = 0 then ((plane_Crop.f k x659000 x659001 x659002 x659003 x659004 x663000 x663001 x663002 x663003).bind fun bt725 => (if bt725.2.2.2.2.2 = 0 then ((waveletref02_Same.f k x724000 x724001 x724002 x724003 x724004 bt725.1 bt725.2.1 bt725.2.2.1 bt725.2.2.2.1 bt725.2.2.2.2.1).bind fun t734 => (if t734 = true then ((waveletlaw02_exampleHolds.f k).bind fun t735 => (some t735)) else (some false))) else (some false))) else ((waveletlaw02_exampleHolds.f k).bind fun t736 => (some t736)))
end
def waveletlaw02_PlaneParts.f (k : Nat) (a0_0 : Int) (a0_1 : Int) (a0_2 : Int) (a0_3 : Int) (l0_4 : List Int) (a1_0 : Int) (a1_1 : Int) (a1_2 : Int) (a1_3 : Int) (l1_4 : List Int) (a2_0 : Int) (a2_1 : Int) (a2_2 : Int) (a2_3 : Int) (a2_4 : Int) (a2_5 : Int) (a2_6 : Int) (a2_7 : Int) : Option (Bool) := (waveletref02_ValidSmall.f a0_0 a0_1 a0_2 a0_3 l0_4).bind fun t663 => (if t663 = true then ((waveletref02_ValidSmall.f a1_0 a1_1 a1_2 a1_3 l1_4).bind fun t664 => (waveletlaw02_PlaneParts.j0 k (!t664) a0_0 a0_1 a0_2 a0_3 l0_4 a1_0 a1_1 a1_2 a1_3 l1_4 a2_0 a2_1 a2_2 a2_3 a2_4 a2_5 a2_6 a2_7)) else (waveletlaw02_PlaneParts.j0 k true a0_0 a0_1 a0_2 a0_3 l0_4 a1_0 a1_1 a1_2 a1_3 l1_4 a2_0 a2_1 a2_2 a2_3 a2_4 a2_5 a2_6 a2_7))
theorem waveletlaw02_PlaneParts.mono_l : ∀ k, (∀ y0 y1 y2 y3 y4 y5 y6 y7 y8 y9 y10 y11 y12 y13 y14 y15 y16 y17 y18, LeO (waveletlaw02_PlaneParts.j0 k y0 y1 y2 y3 y4 y5 y6 y7 y8 y9 y10 y11 y12 y13 y14 y15 y16 y17 y18) (waveletlaw02_PlaneParts.j0 (k + 1) y0 y1 y2 y3 y4 y5 y6 y7 y8 y9 y10 y11 y12 y13 y14 y15 y16 y17 y18)) ∧ (∀ y0 y1 y2 y3 y4 y5 y6 y7 y8 y9 y10 y11 y12 y13 y14 y15 y16 y17 y18, LeO (waveletlaw02_PlaneParts.j1 k y0 y1 y2 y3 y4 y5 y6 y7 y8 y9 y10 y11 y12 y13 y14 y15 y16 y17 y18) (waveletlaw02_PlaneParts.j1 (k + 1) y0 y1 y2 y3 y4 y5 y6 y7 y8 y9 y10 y11 y12 y13 y14 y15 y16 y17 y18)) ∧ (∀ y0 y1 y2 y3 y4 y5 y6 y7 y8 y9 y10 y11 y12 y13 y14 y15 y16 y17 y18 y19 y20 y21 y22 y23, LeO (waveletlaw02_PlaneParts.j2 k y0 y1 y2 y3 y4 y5 y6 y7 y8 y9 y10 y11 y12 y13 y14 y15 y16 y17 y18 y19 y20 y21 y22 y23) (waveletlaw02_PlaneParts.j2 (k + 1) y0 y1 y2 y3 y4 y5 y6 y7 y8 y9 y10 y11 y12 y13 y14 y15 y16 y17 y18 y19 y20 y21 y22 y23)) ∧ (∀ y0 y1 y2 y3 y4 y5 y6 y7 y8 y9 y10 y11 y12, LeO (waveletlaw02_PlaneParts.j3 k y0 y1 y2 y3 y4 y5 y6 y7 y8 y9 y10 y11 y12) (waveletlaw02_PlaneParts.j3 (k + 1) y0 y1 y2 y3 y4 y5 y6 y7 y8 y9 y10 y11 y12)) ∧ (∀ y0 y1 y2 y3 y4 y5 y6 y7 y8 y9 y10 y11 y12 y13 y14 y15, LeO (waveletlaw02_PlaneParts.j4 k y0 y1 y2 y3 y4 y5 y6 y7 y8 y9 y10 y11 y12 y13 y14 y15) (waveletlaw02_PlaneParts.j4 (k + 1) y0 y1 y2 y3 y4 y5 y6 y7 y8 y9 y10 y11 y12 y13 y14 y15))
 | 0 => ⟨fun _ _ _ _ _ _ _ _ _ _ _ _ _ _ _ _ _ _ _ r h => by simp [waveletlaw02_PlaneParts.j0] at h, fun _ _ _ _ _ _ _ _ _ _ _ _ _ _ _ _ _ _ _ r h => by simp [waveletlaw02_PlaneParts.j1] at h, fun _ _ _ _ _ _ _ _ _ _ _ _ _ _ _ _ _ _ _ _ _ _ _ _ r h => by simp [waveletlaw02_PlaneParts.j2] at h, fun _ _ _ _ _ _ _ _ _ _ _ _ _ r h => by simp [waveletlaw02_PlaneParts.j3] at h, fun _ _ _ _ _ _ _ _ _ _ _ _ _ _ _ _ r h => by simp [waveletlaw02_PlaneParts.j4] at h⟩
 | k + 1 => by
  obtain ⟨ih0, ih1, ih2, ih3, ih4⟩ := waveletlaw02_PlaneParts.mono_l k
  refine ⟨?_, ?_, ?_, ?_, ?_⟩
  ·intro y0 y1 y2 y3 y4 y5 y6 y7 y8 y9 y10 y11 y12 y13 y14 y15 y16 y17 y18
   unfold waveletlaw02_PlaneParts.j0
   repeat' first
   | (with_reducible exact ih0 _ _ _ _ _ _ _ _ _ _ _ _ _ _ _ _ _ _ _)
   | (with_reducible exact ih1 _ _ _ _ _ _ _ _ _ _ _ _ _ _ _ _ _ _ _)
   | (with_reducible exact ih2 _ _ _ _ _ _ _ _ _ _ _ _ _ _ _ _ _ _ _ _ _ _ _ _)
   | (with_reducible exact ih3 _ _ _ _ _ _ _ _ _ _ _ _ _)
   | (with_reducible exact ih4 _ _ _ _ _ _ _ _ _ _ _ _ _ _ _ _)
   | (with_reducible exact plane_Crop.mono _ _ _ _ _ _ _ _ _ _)
   | (with_reducible exact plane_Paste.mono _ _ _ _ _ _ _ _ _ _ _)
   | (with_reducible exact waveletlaw02_exampleHolds.mono _)
   | (with_reducible exact waveletref02_Same.mono _ _ _ _ _ _ _ _ _ _ _)
   | (with_reducible exact LeO.refl _)
   | (with_reducible exact LeO.none _)
   | (with_reducible refine LeO.ite ?_ ?_)
   | (with_reducible refine LeO.bind ?_ (fun _ => ?_))
   | exact ih0 _ _ _ _ _ _ _ _ _ _ _ _ _ _ _ _ _ _ _
   | exact ih1 _ _ _ _ _ _ _ _ _ _ _ _ _ _ _ _ _ _ _
   | exact ih2 _ _ _ _ _ _ _ _ _ _ _ _ _ _ _ _ _ _ _ _ _ _ _ _
   | exact ih3 _ _ _ _ _ _ _ _ _ _ _ _ _
   | exact ih4 _ _ _ _ _ _ _ _ _ _ _ _ _ _ _ _
   | exact plane_Crop.mono _ _ _ _ _ _ _ _ _ _
   | exact plane_Paste.mono _ _ _ _ _ _ _ _ _ _ _
   | exact waveletlaw02_exampleHolds.mono _
   | exact waveletref02_Same.mono _ _ _ _ _ _ _ _ _ _ _
   | exact LeO.none _
   | refine LeO.ite ?_ ?_
   | refine LeO.bind ?_ (fun _ => ?_)
  ·intro y0 y1 y2 y3 y4 y5 y6 y7 y8 y9 y10 y11 y12 y13 y14 y15 y16 y17 y18
   unfold waveletlaw02_PlaneParts.j1
   repeat' first
   | (with_reducible exact ih0 _ _ _ _ _ _ _ _ _ _ _ _ _ _ _ _ _ _ _)
   | (with_reducible exact ih1 _ _ _ _ _ _ _ _ _ _ _ _ _ _ _ _ _ _ _)
   | (with_reducible exact ih2 _ _ _ _ _ _ _ _ _ _ _ _ _ _ _ _ _ _ _ _ _ _ _ _)
   | (with_reducible exact ih3 _ _ _ _ _ _ _ _ _ _ _ _ _)
   | (with_reducible exact ih4 _ _ _ _ _ _ _ _ _ _ _ _ _ _ _ _)
   | (with_reducible exact plane_Crop.mono _ _ _ _ _ _ _ _ _ _)
   | (with_reducible exact plane_Paste.mono _ _ _ _ _ _ _ _ _ _ _)
   | (with_reducible exact waveletlaw02_exampleHolds.mono _)
   | (with_reducible exact waveletref02_Same.mono _ _ _ _ _ _ _ _ _ _ _)
   | (with_reducible exact LeO.refl _)
   | (with_reducible exact LeO.none _)
   | (with_reducible refine LeO.ite ?_ ?_)
   | (with_reducible refine LeO.bind ?_ (fun _ => ?_))
   | exact ih0 _ _ _ _ _ _ _ _ _ _ _ _ _ _ _ _ _ _ _
   | exact ih1 _ _ _ _ _ _ _ _ _ _ _ _ _ _ _ _ _ _ _
   | exact ih2 _ _ _ _ _ _ _ _ _ _ _ _ _ _ _ _ _ _ _ _ _ _ _ _
   | exact ih3 _ _ _ _ _ _ _ _ _ _ _ _ _
   | exact ih4 _ _ _ _ _ _ _ _ _ _ _ _ _ _ _ _
   | exact plane_Crop.mono _ _ _ _ _ _ _ _ _ _
   | exact plane_Paste.mono _ _ _ _ _ _ _ _ _ _ _
   | exact waveletlaw02_exampleHolds.mono _
   | exact waveletref02_Same.mono _ _ _ _ _ _ _ _ _ _ _
   | exact LeO.none _
   | refine LeO.ite ?_ ?_
   | refine LeO.bind ?_ (fun _ => ?_)
  ·intro y0 y1 y2 y3 y4 y5 y6 y7 y8 y9 y10 y11 y12 y13 y14 y15 y16 y17 y18 y19 y20 y21 y22 y23
   unfold waveletlaw02_PlaneParts.j2
   repeat' first
   | (with_reducible exact ih0 _ _ _ _ _ _ _ _ _ _ _ _ _ _ _ _ _ _ _)
   | (with_reducible exact ih1 _ _ _ _ _ _ _ _ _ _ _ _ _ _ _ _ _ _ _)
   | (with_reducible exact ih2 _ _ _ _ _ _ _ _ _ _ _ _ _ _ _ _ _ _ _ _ _ _ _ _)
   | (with_reducible exact ih3 _ _ _ _ _ _ _ _ _ _ _ _ _)
   | (with_reducible exact ih4 _ _ _ _ _ _ _ _ _ _ _ _ _ _ _ _)
   | (with_reducible exact plane_Crop.mono _ _ _ _ _ _ _ _ _ _)
   | (with_reducible exact plane_Paste.mono _ _ _ _ _ _ _ _ _ _ _)
   | (with_reducible exact waveletlaw02_exampleHolds.mono _)
   | (with_reducible exact waveletref02_Same.mono _ _ _ _ _ _ _ _ _ _ _)
   | (with_reducible exact LeO.refl _)
   | (with_reducible exact LeO.none _)
   | (with_reducible refine LeO.ite ?_ ?_)
   | (with_reducible refine LeO.bind ?_ (fun _ => ?_))
   | exact ih0 _ _ _ _ _ _ _ _ _ _ _ _ _ _ _ _ _ _ _
   | exact ih1 _ _ _ _ _ _ _ _ _ _ _ _ _ _ _ _ _ _ _
   | exact ih2 _ _ _ _ _ _ _ _ _ _ _ _ _ _ _ _ _ _ _ _ _ _ _ _
   | exact ih3 _ _ _ _ _ _ _ _ _ _ _ _ _
   | exact ih4 _ _ _ _ _ _ _ _ _ _ _ _ _ _ _ _
   | exact plane_Crop.mono _ _ _ _ _ _ _ _ _ _
   | exact plane_Paste.mono _ _ _ _ _ _ _ _ _ _ _
   | exact waveletlaw02_exampleHolds.mono _
   | exact waveletref02_Same.mono _ _ _ _ _ _ _ _ _ _ _
   | exact LeO.none _
   | refine LeO.ite ?_ ?_
   | refine LeO.bind ?_ (fun _ => ?_)
  ·intro y0 y1 y2 y3 y4 y5 y6 y7 y8 y9 y10 y11 y12
   unfold waveletlaw02_PlaneParts.j3
   repeat' first
   | (with_reducible exact ih0 _ _ _ _ _ _ _ _ _ _ _ _ _ _ _ _ _ _ _)
   | (with_reducible exact ih1 _ _ _ _ _ _ _ _ _ _ _ _ _ _ _ _ _ _ _)
   | (with_reducible exact ih2 _ _ _ _ _ _ _ _ _ _ _ _ _ _ _ _ _ _ _ _ _ _ _ _)
   | (with_reducible exact ih3 _ _ _ _ _ _ _ _ _ _ _ _ _)
   | (with_reducible exact ih4 _ _ _ _ _ _ _ _ _ _ _ _ _ _ _ _)
   | (with_reducible exact plane_Crop.mono _ _ _ _ _ _ _ _ _ _)
   | (with_reducible exact plane_Paste.mono _ _ _ _ _ _ _ _ _ _ _)
   | (with_reducible exact waveletlaw02_exampleHolds.mono _)
   | (with_reducible exact waveletref02_Same.mono _ _ _ _ _ _ _ _ _ _ _)
   | (with_reducible exact LeO.refl _)
   | (with_reducible exact LeO.none _)
   | (with_reducible refine LeO.ite ?_ ?_)
   | (with_reducible refine LeO.bind ?_ (fun _ => ?_))
   | exact ih0 _ _ _ _ _ _ _ _ _ _ _ _ _ _ _ _ _ _ _
   | exact ih1 _ _ _ _ _ _ _ _ _ _ _ _ _ _ _ _ _ _ _
   | exact ih2 _ _ _ _ _ _ _ _ _ _ _ _ _ _ _ _ _ _ _ _ _ _ _ _
   | exact ih3 _ _ _ _ _ _ _ _ _ _ _ _ _
   | exact ih4 _ _ _ _ _ _ _ _ _ _ _ _ _ _ _ _
   | exact plane_Crop.mono _ _ _ _ _ _ _ _ _ _
   | exact plane_Paste.mono _ _ _ _ _ _ _ _ _ _ _
   | exact waveletlaw02_exampleHolds.mono _
   | exact waveletref02_Same.mono _ _ _ _ _ _ _ _ _ _ _
   | exact LeO.none _
   | refine LeO.ite ?_ ?_
   | refine LeO.bind ?_ (fun _ => ?_)
  ·intro y0 y1 y2 y3 y4 y5 y6 y7 y8 y9 y10 y11 y12 y13 y14 y15
   unfold waveletlaw02_PlaneParts.j4
   repeat' first
   | (with_reducible exact ih0 _ _ _ _ _ _ _ _ _ _ _ _ _ _ _ _ _ _ _)
   | (with_reducible exact ih1 _ _ _ _ _ _ _ _ _ _ _ _ _ _ _ _ _ _ _)
   | (with_reducible exact ih2 _ _ _ _ _ _ _ _ _ _ _ _ _ _ _ _ _ _ _ _ _ _ _ _)
   | (with_reducible exact ih3 _ _ _ _ _ _ _ _ _ _ _ _ _)
   | (with_reducible exact ih4 _ _ _ _ _ _ _ _ _ _ _ _ _ _ _ _)
   | (with_reducible exact plane_Crop.mono _ _ _ _ _ _ _ _ _ _)
   | (with_reducible exact plane_Paste.mono _ _ _ _ _ _ _ _ _ _ _)
   | (with_reducible exact waveletlaw02_exampleHolds.mono _)
   | (with_reducible exact waveletref02_Same.mono _ _ _ _ _ _ _ _ _ _ _)
   | (with_reducible exact LeO.refl _)
   | (with_reducible exact LeO.none _)
   | (with_reducible refine LeO.ite ?_ ?_)
   | (with_reducible refine LeO.bind ?_ (fun _ => ?_))
   | exact ih0 _ _ _ _ _ _ _ _ _ _ _ _ _ _ _ _ _ _ _
   | exact ih1 _ _ _ _ _ _ _ _ _ _ _ _ _ _ _ _ _ _ _
   | exact ih2 _ _ _ _ _ _ _ _ _ _ _ _ _ _ _ _ _ _ _ _ _ _ _ _
   | exact ih3 _ _ _ _ _ _ _ _ _ _ _ _ _
   | exact ih4 _ _ _ _ _ _ _ _ _ _ _ _ _ _ _ _
   | exact plane_Crop.mono _ _ _ _ _ _ _ _ _ _
   | exact plane_Paste.mono _ _ _ _ _ _ _ _ _ _ _
   | exact waveletlaw02_exampleHolds.mono _
   | exact waveletref02_Same.mono _ _ _ _ _ _ _ _ _ _ _
   | exact LeO.none _
   | refine LeO.ite ?_ ?_
   | refine LeO.bind ?_ (fun _ => ?_)
theorem waveletlaw02_PlaneParts.mono : ∀ a0 a1 a2 a3 a4 a5 a6 a7 a8 a9 a10 a11 a12 a13 a14 a15 a16 a17 k, LeO (waveletlaw02_PlaneParts.f k a0 a1 a2 a3 a4 a5 a6 a7 a8 a9 a10 a11 a12 a13 a14 a15 a16 a17) (waveletlaw02_PlaneParts.f (k + 1) a0 a1 a2 a3 a4 a5 a6 a7 a8 a9 a10 a11 a12 a13 a14 a15 a16 a17) := by
 intro a0 a1 a2 a3 a4 a5 a6 a7 a8 a9 a10 a11 a12 a13 a14 a15 a16 a17 k
 obtain ⟨ih0, ih1, ih2, ih3, ih4⟩ := waveletlaw02_PlaneParts.mono_l k
 unfold waveletlaw02_PlaneParts.f
 repeat' first
   | (with_reducible exact ih0 _ _ _ _ _ _ _ _ _ _ _ _ _ _ _ _ _ _ _)
   | (with_reducible exact ih1 _ _ _ _ _ _ _ _ _ _ _ _ _ _ _ _ _ _ _)
   | (with_reducible exact ih2 _ _ _ _ _ _ _ _ _ _ _ _ _ _ _ _ _ _ _ _ _ _ _ _)
   | (with_reducible exact ih3 _ _ _ _ _ _ _ _ _ _ _ _ _)
   | (with_reducible exact ih4 _ _ _ _ _ _ _ _ _ _ _ _ _ _ _ _)
   | (with_reducible exact plane_Crop.mono _ _ _ _ _ _ _ _ _ _)
   | (with_reducible exact plane_Paste.mono _ _ _ _ _ _ _ _ _ _ _)
   | (with_reducible exact waveletlaw02_exampleHolds.mono _)
   | (with_reducible exact waveletref02_Same.mono _ _ _ _ _ _ _ _ _ _ _)
   | (with_reducible exact LeO.refl _)
   | (with_reducible exact LeO.none _)
   | (with_reducible refine LeO.ite ?_ ?_)
   | (with_reducible refine LeO.bind ?_ (fun _ => ?_))
   | exact ih0 _ _ _ _ _ _ _ _ _ _ _ _ _ _ _ _ _ _ _
   | exact ih1 _ _ _ _ _ _ _ _ _ _ _ _ _ _ _ _ _ _ _
   | exact ih2 _ _ _ _ _ _ _ _ _ _ _ _ _ _ _ _ _ _ _ _ _ _ _ _
   | exact ih3 _ _ _ _ _ _ _ _ _ _ _ _ _
   | exact ih4 _ _ _ _ _ _ _ _ _ _ _ _ _ _ _ _
   | exact plane_Crop.mono _ _ _ _ _ _ _ _ _ _
   | exact plane_Paste.mono _ _ _ _ _ _ _ _ _ _ _
   | exact waveletlaw02_exampleHolds.mono _
   | exact waveletref02_Same.mono _ _ _ _ _ _ _ _ _ _ _
   | exact LeO.none _
   | refine LeO.ite ?_ ?_
   | refine LeO.bind ?_ (fun _ => ?_)
def waveletlaw02_PlaneParts.T1 : Bool × List (List Nat × List Nat) := (true, [([], []), ([0], [0]), ([], []), ([2], [2]), ([], []), ([], []), ([4, 1, 0, 1, 4, 5], [1, 4]), ([5, 3, 6, 0, 1, 2, 3, 4, 5, 6], [3, 5])])
def waveletlaw02_PlaneParts.B1 : List Nat := [0, 1, 0, 4, 0, 0, 51, 127]
theorem waveletlaw02_PlaneParts.tab1 : rtab .any (opsOf Try.f9 1) = waveletlaw02_PlaneParts.T1 := by kernel_rfl
theorem waveletlaw02_PlaneParts.bits1 : waitsOk waveletlaw02_PlaneParts.T1.2 waveletlaw02_PlaneParts.B1 = true := by kernel_rfl
end Go.Proofs.Ythemchggmlpdhaa.Q
