/- MetricsCloser: exchanging two images negates Closer, and no image is closer than the image itself. -/
import Derived.Test.YtfihdlekeainpaaPureFew
import Derived.Test.YtfihdlekeainpaaQ51
namespace Go.Proofs.Ytfihdlekeainpaa.Pure
open Go.RowKit Go.Proofs.Ytfihdlekeainpaa.Q Go.Proofs.YtfihdlekeainpaaW.PrintWords
set_option linter.unusedVariables false
theorem cl_err (A B C : List S42) : (CL A B C).2 = if chk A B = 0 then chk A C else chk A B := by
  unfold CL
  rw [sq_err, sq_err]
  by_cases h : chk A B = 0
  · rw [if_pos h, if_pos h]
    by_cases h2 : chk A C = 0
    · rw [if_pos h2, h2]
      split
      · rfl
      · split <;> rfl
    · rw [if_neg h2]
  · rw [if_neg h, if_neg h]
theorem cl_neg (A B C : List S42) : (CL A B C).1 = wrap64 (-(CL A C B).1) ∧ -1 ≤ (CL A B C).1 ∧ (CL A B C).1 ≤ 1 := by
  unfold CL
  rw [sq_err, sq_err]
  by_cases h : chk A B = 0
  · by_cases h2 : chk A C = 0
    · rw [if_pos h, if_pos h2, if_pos h2, if_pos h]
      by_cases h3 : (SQ A B).1 < (SQ A C).1
      · rw [if_pos h3, if_neg (by omega), if_pos (by omega)]; (simp [wrap64])
      · by_cases h4 : (SQ A B).1 > (SQ A C).1
        · rw [if_neg h3, if_pos h4, if_pos (by omega)]; (simp [wrap64])
        · rw [if_neg h3, if_neg h4, if_neg (by omega), if_neg (by omega)]; (simp [wrap64])
    · rw [if_pos h, if_neg h2, if_neg h2]; (simp [wrap64])
  · by_cases h2 : chk A C = 0
    · rw [if_neg h, if_pos h2, if_neg h]; (simp [wrap64])
    · rw [if_neg h, if_neg h2]; (simp [wrap64])
theorem cl_self {A B C : List S42} (hA : Fin A) (fA : few A = true) : (CL A A C).1 ≤ 0 := by
  unfold CL
  rw [sq_err, sq_err]
  by_cases h : chk A A = 0
  · by_cases h2 : chk A C = 0
    · rw [if_pos h, if_pos h2]
      have h3 := (sq_is hA fA h).1
      have h4 := sq_is hA fA h2
      have h5 : sumsq (PP A A) = 0 := sumsq_zero' _ (fun d hd => by
        obtain ⟨x, hx, hd⟩ := pp_mem.mp hd
        have e : ∀ (l : List S42), ∀ x ∈ l.zip l, x.1 = x.2 := by
          intro l
          induction l with
          | nil => intro x hx; simp at hx
          | cons a l ih =>
            intro x hx
            rw [List.zip_cons_cons, List.mem_cons] at hx
            rcases hx with rfl | hx
            · rfl
            · exact ih x hx
        have e2 : ∀ (l : List Int), ∀ x ∈ l.zip l, x.1 = x.2 := by
          intro l
          induction l with
          | nil => intro x hx; simp at hx
          | cons a l ih =>
            intro x hx
            rw [List.zip_cons_cons, List.mem_cons] at hx
            rcases hx with rfl | hx
            · rfl
            · exact ih x hx
        rw [e A x hx] at hd
        have := e2 _ d hd
        omega)
      have h6 := sumsq_le (m := 131072) (PP A C) h4.2.2
      rw [h3, h4.1]
      show (if sumsq (PP A A) < sumsq (PP A C) then ((-1 : Int), (0 : Int)) else if sumsq (PP A A) > sumsq (PP A C) then (1, 0) else (0, 0)).1 ≤ 0
      split
      · decide
      · rw [if_neg (by omega)]; decide
    · rw [if_pos h, if_neg h2]; exact Int.le_refl _
  · rw [if_neg h]; exact Int.le_refl _
theorem MetricsCloser (a0_0 : Int) (a0_1 : Int) (a0_2 : Int) (a0_3 : Int) (a0_4 : Int) (a0_5 : Int) (l0_6 : List (S51)) (l0_7 : List (S42)) (a1_0 : Int) (a1_1 : Int) (a1_2 : Int) (a1_3 : Int) (a1_4 : Int) (a1_5 : Int) (l1_6 : List (S51)) (l1_7 : List (S42)) (a2_0 : Int) (a2_1 : Int) (a2_2 : Int) (a2_3 : Int) (a2_4 : Int) (a2_5 : Int) (l2_6 : List (S51)) (l2_7 : List (S42)) (w0_0 : (Lit.int .i64 a0_0).wf = true) (w0_1 : (Lit.int .i64 a0_1).wf = true) (w0_2 : (Lit.int .i64 a0_2).wf = true) (w0_3 : (Lit.int .i64 a0_3).wf = true) (w0_4 : (Lit.int .i64 a0_4).wf = true) (w0_5 : (Lit.int .i64 a0_5).wf = true) (y0_6 : l0_6.length * 32 ≤ 140737488351232) (w0_6 : ∀ x ∈ l0_6, ((Lit.int .i64 x.f0).wf = true ∧ True ∧ (Lit.int .i64 x.f2).wf = true ∧ (Lit.int .i64 x.f3).wf = true)) (y0_7 : l0_7.length * 56 ≤ 140737488351232) (w0_7 : ∀ x ∈ l0_7, (((Lit.int .i64 x.f0.f0).wf = true ∧ (Lit.int .i64 x.f0.f1).wf = true ∧ (Lit.int .i64 x.f0.f2).wf = true ∧ (Lit.int .i64 x.f0.f3).wf = true) ∧ (x.f1.length * 8 ≤ 140737488351232 ∧ ∀ x_ ∈ x.f1, (Lit.int .i64 x_).wf = true))) (w1_0 : (Lit.int .i64 a1_0).wf = true) (w1_1 : (Lit.int .i64 a1_1).wf = true) (w1_2 : (Lit.int .i64 a1_2).wf = true) (w1_3 : (Lit.int .i64 a1_3).wf = true) (w1_4 : (Lit.int .i64 a1_4).wf = true) (w1_5 : (Lit.int .i64 a1_5).wf = true) (y1_6 : l1_6.length * 32 ≤ 140737488351232) (w1_6 : ∀ x ∈ l1_6, ((Lit.int .i64 x.f0).wf = true ∧ True ∧ (Lit.int .i64 x.f2).wf = true ∧ (Lit.int .i64 x.f3).wf = true)) (y1_7 : l1_7.length * 56 ≤ 140737488351232) (w1_7 : ∀ x ∈ l1_7, (((Lit.int .i64 x.f0.f0).wf = true ∧ (Lit.int .i64 x.f0.f1).wf = true ∧ (Lit.int .i64 x.f0.f2).wf = true ∧ (Lit.int .i64 x.f0.f3).wf = true) ∧ (x.f1.length * 8 ≤ 140737488351232 ∧ ∀ x_ ∈ x.f1, (Lit.int .i64 x_).wf = true))) (w2_0 : (Lit.int .i64 a2_0).wf = true) (w2_1 : (Lit.int .i64 a2_1).wf = true) (w2_2 : (Lit.int .i64 a2_2).wf = true) (w2_3 : (Lit.int .i64 a2_3).wf = true) (w2_4 : (Lit.int .i64 a2_4).wf = true) (w2_5 : (Lit.int .i64 a2_5).wf = true) (y2_6 : l2_6.length * 32 ≤ 140737488351232) (w2_6 : ∀ x ∈ l2_6, ((Lit.int .i64 x.f0).wf = true ∧ True ∧ (Lit.int .i64 x.f2).wf = true ∧ (Lit.int .i64 x.f3).wf = true)) (y2_7 : l2_7.length * 56 ≤ 140737488351232) (w2_7 : ∀ x ∈ l2_7, (((Lit.int .i64 x.f0.f0).wf = true ∧ (Lit.int .i64 x.f0.f1).wf = true ∧ (Lit.int .i64 x.f0.f2).wf = true ∧ (Lit.int .i64 x.f0.f3).wf = true) ∧ (x.f1.length * 8 ≤ 140737488351232 ∧ ∀ x_ ∈ x.f1, (Lit.int .i64 x_).wf = true))) : ∃ k, waveletlaw50_MetricsCloser.f k a0_0 a0_1 a0_2 a0_3 a0_4 a0_5 l0_6 l0_7 a1_0 a1_1 a1_2 a1_3 a1_4 a1_5 l1_6 l1_7 a2_0 a2_1 a2_2 a2_3 a2_4 a2_5 l2_6 l2_7 = some true := by
  have hA := fin_of y0_7 w0_7
  have hB := fin_of y1_7 w1_7
  have hC := fin_of y2_7 w2_7
  clear w0_0 w0_1 w0_2 w0_3 w0_4 w0_5 y0_6 w0_6 y0_7 w0_7 w1_0 w1_1 w1_2 w1_3 w1_4 w1_5 y1_6 w1_6 y1_7 w1_7 w2_0 w2_1 w2_2 w2_3 w2_4 w2_5 y2_6 w2_6 y2_7 w2_7
  refine Ev.ex (v := true) ?_
  have hex : Ev (fun k => (waveletlaw50_exampleHolds.f k).bind fun t => some t) true := Ev.bind example_holds (Ev.const _)
  have hj : Ev (fun k => waveletlaw50_MetricsCloser.j0 k true a0_0 a0_1 a0_2 a0_3 a0_4 a0_5 l0_6 l0_7 a1_0 a1_1 a1_2 a1_3 a1_4 a1_5 l1_6 l1_7 a2_0 a2_1 a2_2 a2_3 a2_4 a2_5 l2_6 l2_7) true :=
    Ev.step (fun k => by rw [waveletlaw50_MetricsCloser.j0, if_pos rfl]) hex
  refine Ev.bind (few_ev _ _ _ _ _ _ _ _ hA) ?_
  by_cases f1 : few l0_7 = true
  · refine Ev.eq (fun k => by rw [if_pos f1]) (Ev.bind (few_ev _ _ _ _ _ _ _ _ hB) ?_)
    by_cases f2 : few l1_7 = true
    · refine Ev.eq (fun k => by rw [if_pos f2]) (Ev.bind (few_ev _ _ _ _ _ _ _ _ hC) ?_)
      by_cases f3 : few l2_7 = true
      · refine Ev.eq (fun k => by rw [f3]) ?_
        refine Ev.step (fun k => by rw [waveletlaw50_MetricsCloser.j0, if_neg (by decide)]) ?_
        refine Ev.bind (closer_ev _ _ _ _ _ _ _ _ hA _ _ _ _ _ _ _ _ hB _ _ _ _ _ _ _ _ hC) (Ev.bind (closer_ev _ _ _ _ _ _ _ _ hA _ _ _ _ _ _ _ _ hC _ _ _ _ _ _ _ _ hB) ?_)
        have hn := cl_neg l0_7 l1_7 l2_7
        have hb : (((CL l0_7 l1_7 l2_7).2 == 0) != ((CL l0_7 l2_7 l1_7).2 == 0)) = false := by
          rw [cl_err, cl_err]
          by_cases h1 : chk l0_7 l1_7 = 0
          · by_cases h2 : chk l0_7 l2_7 = 0
            · rw [if_pos h1, if_pos h2, h1, h2]; rfl
            · rw [if_pos h1, if_neg h2]; simp
          · by_cases h2 : chk l0_7 l2_7 = 0
            · rw [if_neg h1, if_pos h2]; simp
            · rw [if_neg h1, if_neg h2, beq_eq_false_iff_ne.mpr h1, beq_eq_false_iff_ne.mpr h2]; rfl
        refine Ev.eq (fun k => by rw [hb, if_neg (by decide), if_pos hn.1, if_neg (by omega), decide_eq_false (by omega)]) ?_
        refine Ev.step (fun k => by rw [waveletlaw50_MetricsCloser.j1, if_neg (by decide)]) ?_
        refine Ev.bind (closer_ev _ _ _ _ _ _ _ _ hA _ _ _ _ _ _ _ _ hA _ _ _ _ _ _ _ _ hC) ?_
        have hz := cl_self (B := l1_7) (C := l2_7) hA f1
        by_cases he : (CL l0_7 l1_7 l2_7).2 = 0
        · have hg : (CL l0_7 l0_7 l2_7).2 = 0 := by
            rw [cl_err] at he ⊢
            have h1 : chk l0_7 l1_7 = 0 := by
              by_cases h1 : chk l0_7 l1_7 = 0
              · exact h1
              · rw [if_neg h1] at he; exact absurd he h1
            rw [if_pos h1] at he
            rw [if_pos (chk_trans h1 (by rw [chk_comm]; exact h1))]
            exact he
          refine Ev.eq (fun k => by rw [if_pos he, if_pos hg, if_pos hz]) ?_
          exact hex
        · refine Ev.eq (fun k => by rw [if_neg he, if_pos hz]) ?_
          exact hex
      · refine Ev.eq (fun k => by rw [Bool.eq_false_iff.mpr f3]) ?_
        exact hj
    · refine Ev.eq (fun k => by rw [if_neg f2]) ?_
      exact hj
  · refine Ev.eq (fun k => by rw [if_neg f1]) ?_
    exact hj
end Go.Proofs.Ytfihdlekeainpaa.Pure
