/- MetricsDistances: the measures of two images do not depend on their order, agree with each other and with Equal, and the greatest difference is a distance. -/
import Derived.Test.YtfihdlekeainpaaPureFew
import Derived.Test.YtfihdlekeainpaaQ50
namespace Go.Proofs.Ytfihdlekeainpaa.Pure
open Go.RowKit Go.Proofs.Ytfihdlekeainpaa.Q Go.Proofs.YtfihdlekeainpaaW.PrintWords
set_option linter.unusedVariables false
theorem MetricsDistances (a0_0 : Int) (a0_1 : Int) (a0_2 : Int) (a0_3 : Int) (a0_4 : Int) (a0_5 : Int) (l0_6 : List (S51)) (l0_7 : List (S42)) (a1_0 : Int) (a1_1 : Int) (a1_2 : Int) (a1_3 : Int) (a1_4 : Int) (a1_5 : Int) (l1_6 : List (S51)) (l1_7 : List (S42)) (a2_0 : Int) (a2_1 : Int) (a2_2 : Int) (a2_3 : Int) (a2_4 : Int) (a2_5 : Int) (l2_6 : List (S51)) (l2_7 : List (S42)) (w0_0 : (Lit.int .i64 a0_0).wf = true) (w0_1 : (Lit.int .i64 a0_1).wf = true) (w0_2 : (Lit.int .i64 a0_2).wf = true) (w0_3 : (Lit.int .i64 a0_3).wf = true) (w0_4 : (Lit.int .i64 a0_4).wf = true) (w0_5 : (Lit.int .i64 a0_5).wf = true) (y0_6 : l0_6.length * 32 ≤ 140737488351232) (w0_6 : ∀ x ∈ l0_6, ((Lit.int .i64 x.f0).wf = true ∧ True ∧ (Lit.int .i64 x.f2).wf = true ∧ (Lit.int .i64 x.f3).wf = true)) (y0_7 : l0_7.length * 56 ≤ 140737488351232) (w0_7 : ∀ x ∈ l0_7, (((Lit.int .i64 x.f0.f0).wf = true ∧ (Lit.int .i64 x.f0.f1).wf = true ∧ (Lit.int .i64 x.f0.f2).wf = true ∧ (Lit.int .i64 x.f0.f3).wf = true) ∧ (x.f1.length * 8 ≤ 140737488351232 ∧ ∀ x_ ∈ x.f1, (Lit.int .i64 x_).wf = true))) (w1_0 : (Lit.int .i64 a1_0).wf = true) (w1_1 : (Lit.int .i64 a1_1).wf = true) (w1_2 : (Lit.int .i64 a1_2).wf = true) (w1_3 : (Lit.int .i64 a1_3).wf = true) (w1_4 : (Lit.int .i64 a1_4).wf = true) (w1_5 : (Lit.int .i64 a1_5).wf = true) (y1_6 : l1_6.length * 32 ≤ 140737488351232) (w1_6 : ∀ x ∈ l1_6, ((Lit.int .i64 x.f0).wf = true ∧ True ∧ (Lit.int .i64 x.f2).wf = true ∧ (Lit.int .i64 x.f3).wf = true)) (y1_7 : l1_7.length * 56 ≤ 140737488351232) (w1_7 : ∀ x ∈ l1_7, (((Lit.int .i64 x.f0.f0).wf = true ∧ (Lit.int .i64 x.f0.f1).wf = true ∧ (Lit.int .i64 x.f0.f2).wf = true ∧ (Lit.int .i64 x.f0.f3).wf = true) ∧ (x.f1.length * 8 ≤ 140737488351232 ∧ ∀ x_ ∈ x.f1, (Lit.int .i64 x_).wf = true))) (w2_0 : (Lit.int .i64 a2_0).wf = true) (w2_1 : (Lit.int .i64 a2_1).wf = true) (w2_2 : (Lit.int .i64 a2_2).wf = true) (w2_3 : (Lit.int .i64 a2_3).wf = true) (w2_4 : (Lit.int .i64 a2_4).wf = true) (w2_5 : (Lit.int .i64 a2_5).wf = true) (y2_6 : l2_6.length * 32 ≤ 140737488351232) (w2_6 : ∀ x ∈ l2_6, ((Lit.int .i64 x.f0).wf = true ∧ True ∧ (Lit.int .i64 x.f2).wf = true ∧ (Lit.int .i64 x.f3).wf = true)) (y2_7 : l2_7.length * 56 ≤ 140737488351232) (w2_7 : ∀ x ∈ l2_7, (((Lit.int .i64 x.f0.f0).wf = true ∧ (Lit.int .i64 x.f0.f1).wf = true ∧ (Lit.int .i64 x.f0.f2).wf = true ∧ (Lit.int .i64 x.f0.f3).wf = true) ∧ (x.f1.length * 8 ≤ 140737488351232 ∧ ∀ x_ ∈ x.f1, (Lit.int .i64 x_).wf = true))) : ∃ k, waveletlaw50_MetricsDistances.f k a0_0 a0_1 a0_2 a0_3 a0_4 a0_5 l0_6 l0_7 a1_0 a1_1 a1_2 a1_3 a1_4 a1_5 l1_6 l1_7 a2_0 a2_1 a2_2 a2_3 a2_4 a2_5 l2_6 l2_7 = some true := by
  have hA := fin_of y0_7 w0_7
  have hB := fin_of y1_7 w1_7
  have hC := fin_of y2_7 w2_7
  clear w0_0 w0_1 w0_2 w0_3 w0_4 w0_5 y0_6 w0_6 y0_7 w0_7 w1_0 w1_1 w1_2 w1_3 w1_4 w1_5 y1_6 w1_6 y1_7 w1_7 w2_0 w2_1 w2_2 w2_3 w2_4 w2_5 y2_6 w2_6 y2_7 w2_7
  refine Ev.ex (v := true) ?_
  have hex : Ev (fun k => (waveletlaw50_exampleHolds.f k).bind fun t => some t) true := Ev.bind example_holds (Ev.const _)
  have hj : Ev (fun k => waveletlaw50_MetricsDistances.j0 k true a0_0 a0_1 a0_2 a0_3 a0_4 a0_5 l0_6 l0_7 a1_0 a1_1 a1_2 a1_3 a1_4 a1_5 l1_6 l1_7 a2_0 a2_1 a2_2 a2_3 a2_4 a2_5 l2_6 l2_7) true :=
    Ev.step (fun k => by rw [waveletlaw50_MetricsDistances.j0, if_pos rfl]) hex
  refine Ev.bind (few_ev _ _ _ _ _ _ _ _ hA) ?_
  by_cases f1 : few l0_7 = true
  · refine Ev.eq (fun k => by rw [if_pos f1]) (Ev.bind (few_ev _ _ _ _ _ _ _ _ hB) ?_)
    by_cases f2 : few l1_7 = true
    · refine Ev.eq (fun k => by rw [if_pos f2]) (Ev.bind (few_ev _ _ _ _ _ _ _ _ hC) ?_)
      by_cases f3 : few l2_7 = true
      · refine Ev.eq (fun k => by rw [f3]) ?_
        refine Ev.step (fun k => by rw [waveletlaw50_MetricsDistances.j0, if_neg (by decide)]) ?_
        refine Ev.bind (sq_ev _ _ _ _ _ _ _ _ hA _ _ _ _ _ _ _ _ hB) (Ev.bind (sq_ev _ _ _ _ _ _ _ _ hB _ _ _ _ _ _ _ _ hA) (Ev.bind (mx_ev _ _ _ _ _ _ _ _ hA _ _ _ _ _ _ _ _ hB) (Ev.bind (mx_ev _ _ _ _ _ _ _ _ hB _ _ _ _ _ _ _ _ hA) ?_)))
        rw [← sq_comm hA f1 hB f2, ← mx_comm (A := l0_7) (B := l1_7)]
        refine Ev.eq (fun k => by rw [if_pos rfl, if_pos rfl, if_pos rfl, if_pos rfl, if_pos rfl, sq_err, mx_err, bne_self_eq_false]) ?_
        by_cases hz : chk l0_7 l1_7 = 0
        · have hsq := sq_is hA f1 hz
          have hmx := mx_is hz
          have hal := chk_alike hz
          rw [hsq.1, hmx]
          have hr := hsq.2.2
          have hn := hsq.2.1
          generalize hP : PP l0_7 l1_7 = P at hr hn ⊢
          have hm := mx_spec P 0 hr (Int.le_refl _)
          generalize hM : P.foldl mxStep 0 = M at hm ⊢
          have hM2 : M ≤ 131072 := by
            rcases hm.2.2 with e | ⟨d, hd, e⟩
            · omega
            · have := hr d hd; omega
          have hs := sumsq_le P hm.2.1
          have hMM := @sq_le M 131072 (by omega)
          have hz0 : sumsq P = 0 ↔ ∀ d ∈ P, d.1 - d.2 = 0 := ⟨sumsq_zero P, sumsq_zero' P⟩
          have hM0 : M = 0 ↔ ∀ d ∈ P, d.1 - d.2 = 0 := by
            constructor
            · intro e d hd
              have := hm.2.1 d hd
              omega
            · intro e
              rcases hm.2.2 with e2 | ⟨d, hd, e2⟩
              · exact e2
              · have := e d hd; omega
          have heq : EQ l0_7 l1_7 = true ↔ ∀ d ∈ P, d.1 - d.2 = 0 := by rw [← hP]; exact eq_zero hz
          have hge : M * M ≤ sumsq P := by
            rcases hm.2.2 with e | ⟨d, hd, e⟩
            · rw [e]; exact hs.1
            · have := sumsq_ge P hr d hd
              rcases e with e | e
              · rw [e]; exact this
              · rw [e, show d.2 - d.1 = -(d.1 - d.2) by omega, Int.neg_mul_neg]; exact this
          have hw1 : wrap64 (wrap64 ((P.length : Int) * M) * M) = (P.length : Int) * (M * M) := by
            have h1 := @mul_bd (P.length : Int) M 2000 131072 (by omega) (by omega) hm.1 hM2
            have h2 := @mul_bd (P.length : Int) (M * M) 2000 17179869184 (by omega) (by omega) hMM.1 (by omega)
            rw [show wrap64 ((P.length : Int) * M) = (P.length : Int) * M by unfold wrap64; omega, Int.mul_assoc]
            unfold wrap64
            omega
          have hw2 : wrap64 (M * M) = M * M := by unfold wrap64; omega
          have b1 : ((sumsq P == 0) != (M == 0)) = false := by
            rw [show (sumsq P == 0) = (M == 0) by rw [Bool.eq_iff_iff, beq_iff_eq, beq_iff_eq, hz0, hM0], bne_self_eq_false]
          have b2 : ((sumsq P == 0) != EQ l0_7 l1_7) = false := by
            rw [show (sumsq P == 0) = EQ l0_7 l1_7 by rw [Bool.eq_iff_iff, beq_iff_eq, hz0, heq], bne_self_eq_false]
          refine Ev.step (fun k => by rw [waveletlaw50_MetricsDistances.j1, if_neg (by decide), hz, if_pos rfl, b1, if_neg (by decide)]) ?_
          refine Ev.bind (equal_ev _ _ _ _ _ _ _ _ hA _ _ _ _ _ _ _ _) ?_
          refine Ev.eq (fun k => by rw [b2, if_neg (by decide), hw1, if_neg (by have := hs.2; omega), hw2, decide_eq_false (by omega)]) ?_
          refine Ev.step (fun k => by rw [waveletlaw50_MetricsDistances.j2, if_neg (by decide)]) ?_
          refine Ev.bind (mx_ev _ _ _ _ _ _ _ _ hB _ _ _ _ _ _ _ _ hC) (Ev.bind (mx_ev _ _ _ _ _ _ _ _ hA _ _ _ _ _ _ _ _ hC) ?_)
          rw [mx_err, mx_err]
          by_cases hy : chk l1_7 l2_7 = 0
          · have hx := chk_trans hz hy
            have w1 := (chk_ok hy).2.2.2.2
            have w2 := (chk_ok hx).2.2.2.2
            have m1 := mx_spec (PP l1_7 l2_7) 0 (pp_rng w1.1 w1.2) (Int.le_refl _)
            have m2 := mx_spec (PP l0_7 l2_7) 0 (pp_rng w2.1 w2.2) (Int.le_refl _)
            have m3 : (PP l1_7 l2_7).foldl mxStep 0 ≤ 131072 := by
              rcases m1.2.2 with e | ⟨d, hd, e⟩
              · omega
              · have := pp_rng w1.1 w1.2 d hd; omega
            have key : (MX l0_7 l2_7).1 ≤ wrap64 (M + (MX l1_7 l2_7).1) := by
              rw [mx_is hx, mx_is hy]
              show (PP l0_7 l2_7).foldl mxStep 0 ≤ wrap64 (M + (PP l1_7 l2_7).foldl mxStep 0)
              rw [show wrap64 (M + (PP l1_7 l2_7).foldl mxStep 0) = M + (PP l1_7 l2_7).foldl mxStep 0 by unfold wrap64; omega]
              rcases m2.2.2 with e | ⟨d, hd, e⟩
              · omega
              · obtain ⟨b, b1, b2⟩ := pp3 hal (chk_alike hy) hd
                rw [hP] at b1
                have u1 := hm.2.1 _ b1
                have u2 := m1.2.1 _ b2
                simp only at u1 u2
                omega
            refine Ev.eq (fun k => by rw [if_pos hy, if_pos hx, if_pos key]) ?_
            exact hex
          · refine Ev.eq (fun k => by rw [if_neg hy]) ?_
            exact hex
        · refine Ev.step (fun k => by rw [waveletlaw50_MetricsDistances.j1, if_neg (by decide), if_neg hz]) ?_
          exact hex
      · refine Ev.eq (fun k => by rw [Bool.eq_false_iff.mpr f3]) ?_
        exact hj
    · refine Ev.eq (fun k => by rw [if_neg f2]) ?_
      exact hj
  · refine Ev.eq (fun k => by rw [if_neg f1]) ?_
    exact hj
end Go.Proofs.Ytfihdlekeainpaa.Pure
