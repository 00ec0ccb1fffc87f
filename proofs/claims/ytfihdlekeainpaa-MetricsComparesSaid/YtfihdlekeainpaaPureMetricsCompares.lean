/- MetricsCompares: Equal and Closer return what the specification returns, for images of at most 2000 samples. -/
import Derived.Test.YtfihdlekeainpaaPureInts
import Derived.Test.YtfihdlekeainpaaPureRef
import Derived.Test.YtfihdlekeainpaaQ36
namespace Go.Proofs.Ytfihdlekeainpaa.Pure
open Go.RowKit Go.Proofs.Ytfihdlekeainpaa.Q Go.Proofs.YtfihdlekeainpaaW.PrintWords
set_option linter.unusedVariables false
theorem same_ev (p q : S42) (hp : p.f1.length < 1000000000000000) : Ev (fun k => waveletref02_Same.f k p.f0.f0 p.f0.f1 p.f0.f2 p.f0.f3 p.f1 q.f0.f0 q.f0.f1 q.f0.f2 q.f0.f3 q.f1) (EQp (p, q)) := by
  by_cases h : SR p q = true
  · rw [show EQp (p, q) = decide (p.f1 = q.f1) by unfold EQp; rw [h, Bool.true_and]]
    refine Ev.eq (fun k => by rw [waveletref02_Same.f, if_pos (by unfold SR at h; exact h)]) ?_
    exact Ev.bind (ints_ev _ _ hp) (Ev.const _)
  · rw [show EQp (p, q) = false by unfold EQp; rw [Bool.eq_false_iff.mpr h, Bool.false_and]]
    refine Ev.eq (fun k => by rw [waveletref02_Same.f, if_neg (by unfold SR at h; exact h)]) ?_
    exact Ev.const _
theorem sameall_l0 (A : List S42) (hA : Fin A) (B : List S42) : ∀ postA postB preA preB, A = preA ++ postA → B = preB ++ postB → preA.length = preB.length → postA.length = postB.length →
    Ev (fun k => waveletref02_SameAll.l0 k A B (preA.length : Int)) ((postA.zip postB).all EQp) := by
  intro postA
  induction postA with
  | nil =>
    intro postB preA preB h h' hl hp
    rw [List.append_nil] at h
    subst h
    refine Ev.step (fun k => by rw [waveletref02_SameAll.l0, if_neg (by omega)]) ?_
    exact Ev.const _
  | cons x postA ih =>
    intro postB preA preB h h' hl hp
    match postB, hp with
    | y :: postB, hp =>
      have hx : rd_T42 A (preA.length : Int) = x := by rw [h]; exact rdT_at _ _ _
      have hy : rd_T42 B (preA.length : Int) = y := by rw [h', hl]; exact rdT_at _ _ _
      have hi : (preA.length : Int) < (A.length : Int) := by rw [h]; exact in_app _ _ _
      have hj : (preA.length : Int) < (B.length : Int) := by rw [h', hl]; exact in_app _ _ _
      have hs : wrap64 ((preA.length : Int) + 1) = ((preA ++ [x]).length : Int) := nx preA x (by have := hA.1; omega)
      have hz : ((x :: postA).zip (y :: postB)).all EQp = (EQp (x, y) && (postA.zip postB).all EQp) := rfl
      rw [hz]
      refine Ev.step (fun k => by rw [waveletref02_SameAll.l0, if_pos hi, if_pos (by omega), if_pos hj, hx, hy]) (Ev.bind (same_ev x y (hA.2 x (by rw [h]; simp))) ?_)
      by_cases h1 : EQp (x, y) = true
      · refine Ev.eq (fun k => by rw [if_pos h1, hs]) ?_
        rw [h1, Bool.true_and]
        exact ih postB (preA ++ [x]) (preB ++ [y]) (by simp [h]) (by simp [h']) (by simp [hl]) (by simpa using hp)
      · refine Ev.eq (fun k => by rw [if_neg h1]) ?_
        rw [Bool.eq_false_iff.mpr h1, Bool.false_and]
        exact Ev.const _
theorem requal_ev (a0 a1 a2 a3 a4 a5 : Int) (l : List S51) (A : List S42) (hA : Fin A) (b0 b1 b2 b3 b4 b5 : Int) (l' : List S51) (B : List S42) :
    Ev (fun k => waveletref50_Equal.f k a0 a1 a2 a3 a4 a5 l A b0 b1 b2 b3 b4 b5 l' B) (EQ A B) := by
  refine Ev.bind (a := EQ A B) ?_ (Ev.const _)
  unfold EQ
  by_cases h : A.length = B.length
  · rw [decide_eq_true h, Bool.true_and]
    refine Ev.eq (fun k => by rw [waveletref02_SameAll.f, if_pos (by omega)]) ?_
    exact sameall_l0 A hA B A B [] [] rfl rfl rfl h
  · rw [decide_eq_false h, Bool.false_and]
    refine Ev.eq (fun k => by rw [waveletref02_SameAll.f, if_neg (by omega)]) ?_
    exact Ev.const _
theorem rcloser_ev (a0 a1 a2 a3 a4 a5 : Int) (l : List S51) (A : List S42) (hA : Fin A) (fA : few A = true) (b0 b1 b2 b3 b4 b5 : Int) (l' : List S51) (B : List S42) (hB : Fin B) (c0 c1 c2 c3 c4 c5 : Int) (l'' : List S51) (C : List S42) (hC : Fin C) :
    Ev (fun k => waveletref50_Closer.f k a0 a1 a2 a3 a4 a5 l A b0 b1 b2 b3 b4 b5 l' B c0 c1 c2 c3 c4 c5 l'' C) (CL A B C) := by
  unfold CL
  refine Ev.bind (rsq_ev _ _ _ _ _ _ _ _ hA fA _ _ _ _ _ _ _ _ hB) ?_
  by_cases h : (SQ A B).2.2 = 0
  · rw [if_pos h]
    refine Ev.eq (fun k => by rw [if_pos h]) ?_
    refine Ev.bind (rsq_ev _ _ _ _ _ _ _ _ hA fA _ _ _ _ _ _ _ _ hC) ?_
    by_cases h2 : (SQ A C).2.2 = 0
    · rw [if_pos h2, if_pos h2]
      split
      · exact Ev.const _
      · split <;> exact Ev.const _
    · rw [if_neg h2, if_neg h2]
      exact Ev.const _
  · rw [if_neg h]
    refine Ev.eq (fun k => by rw [if_neg h]) ?_
    exact Ev.const _
theorem MetricsCompares (a0_0 : Int) (a0_1 : Int) (a0_2 : Int) (a0_3 : Int) (a0_4 : Int) (a0_5 : Int) (l0_6 : List (S51)) (l0_7 : List (S42)) (a1_0 : Int) (a1_1 : Int) (a1_2 : Int) (a1_3 : Int) (a1_4 : Int) (a1_5 : Int) (l1_6 : List (S51)) (l1_7 : List (S42)) (a2_0 : Int) (a2_1 : Int) (a2_2 : Int) (a2_3 : Int) (a2_4 : Int) (a2_5 : Int) (l2_6 : List (S51)) (l2_7 : List (S42)) (w0_0 : (Lit.int .i64 a0_0).wf = true) (w0_1 : (Lit.int .i64 a0_1).wf = true) (w0_2 : (Lit.int .i64 a0_2).wf = true) (w0_3 : (Lit.int .i64 a0_3).wf = true) (w0_4 : (Lit.int .i64 a0_4).wf = true) (w0_5 : (Lit.int .i64 a0_5).wf = true) (y0_6 : l0_6.length * 32 ≤ 140737488351232) (w0_6 : ∀ x ∈ l0_6, ((Lit.int .i64 x.f0).wf = true ∧ True ∧ (Lit.int .i64 x.f2).wf = true ∧ (Lit.int .i64 x.f3).wf = true)) (y0_7 : l0_7.length * 56 ≤ 140737488351232) (w0_7 : ∀ x ∈ l0_7, (((Lit.int .i64 x.f0.f0).wf = true ∧ (Lit.int .i64 x.f0.f1).wf = true ∧ (Lit.int .i64 x.f0.f2).wf = true ∧ (Lit.int .i64 x.f0.f3).wf = true) ∧ (x.f1.length * 8 ≤ 140737488351232 ∧ ∀ x_ ∈ x.f1, (Lit.int .i64 x_).wf = true))) (w1_0 : (Lit.int .i64 a1_0).wf = true) (w1_1 : (Lit.int .i64 a1_1).wf = true) (w1_2 : (Lit.int .i64 a1_2).wf = true) (w1_3 : (Lit.int .i64 a1_3).wf = true) (w1_4 : (Lit.int .i64 a1_4).wf = true) (w1_5 : (Lit.int .i64 a1_5).wf = true) (y1_6 : l1_6.length * 32 ≤ 140737488351232) (w1_6 : ∀ x ∈ l1_6, ((Lit.int .i64 x.f0).wf = true ∧ True ∧ (Lit.int .i64 x.f2).wf = true ∧ (Lit.int .i64 x.f3).wf = true)) (y1_7 : l1_7.length * 56 ≤ 140737488351232) (w1_7 : ∀ x ∈ l1_7, (((Lit.int .i64 x.f0.f0).wf = true ∧ (Lit.int .i64 x.f0.f1).wf = true ∧ (Lit.int .i64 x.f0.f2).wf = true ∧ (Lit.int .i64 x.f0.f3).wf = true) ∧ (x.f1.length * 8 ≤ 140737488351232 ∧ ∀ x_ ∈ x.f1, (Lit.int .i64 x_).wf = true))) (w2_0 : (Lit.int .i64 a2_0).wf = true) (w2_1 : (Lit.int .i64 a2_1).wf = true) (w2_2 : (Lit.int .i64 a2_2).wf = true) (w2_3 : (Lit.int .i64 a2_3).wf = true) (w2_4 : (Lit.int .i64 a2_4).wf = true) (w2_5 : (Lit.int .i64 a2_5).wf = true) (y2_6 : l2_6.length * 32 ≤ 140737488351232) (w2_6 : ∀ x ∈ l2_6, ((Lit.int .i64 x.f0).wf = true ∧ True ∧ (Lit.int .i64 x.f2).wf = true ∧ (Lit.int .i64 x.f3).wf = true)) (y2_7 : l2_7.length * 56 ≤ 140737488351232) (w2_7 : ∀ x ∈ l2_7, (((Lit.int .i64 x.f0.f0).wf = true ∧ (Lit.int .i64 x.f0.f1).wf = true ∧ (Lit.int .i64 x.f0.f2).wf = true ∧ (Lit.int .i64 x.f0.f3).wf = true) ∧ (x.f1.length * 8 ≤ 140737488351232 ∧ ∀ x_ ∈ x.f1, (Lit.int .i64 x_).wf = true))) : ∃ k, waveletlaw50_MetricsCompares.f k a0_0 a0_1 a0_2 a0_3 a0_4 a0_5 l0_6 l0_7 a1_0 a1_1 a1_2 a1_3 a1_4 a1_5 l1_6 l1_7 a2_0 a2_1 a2_2 a2_3 a2_4 a2_5 l2_6 l2_7 = some true := by
  have hA := fin_of y0_7 w0_7
  have hB := fin_of y1_7 w1_7
  have hC := fin_of y2_7 w2_7
  clear w0_0 w0_1 w0_2 w0_3 w0_4 w0_5 y0_6 w0_6 y0_7 w0_7 w1_0 w1_1 w1_2 w1_3 w1_4 w1_5 y1_6 w1_6 y1_7 w1_7 w2_0 w2_1 w2_2 w2_3 w2_4 w2_5 y2_6 w2_6 y2_7 w2_7
  refine Ev.ex (v := true) ?_
  have hex : Ev (fun k => (waveletlaw50_exampleHolds.f k).bind fun t => some t) true := Ev.bind example_holds (Ev.const _)
  have hj : Ev (fun k => waveletlaw50_MetricsCompares.j0 k true a0_0 a0_1 a0_2 a0_3 a0_4 a0_5 l0_6 l0_7 a1_0 a1_1 a1_2 a1_3 a1_4 a1_5 l1_6 l1_7 a2_0 a2_1 a2_2 a2_3 a2_4 a2_5 l2_6 l2_7) true :=
    Ev.step (fun k => by rw [waveletlaw50_MetricsCompares.j0, if_pos rfl]) hex
  refine Ev.bind (few_ev _ _ _ _ _ _ _ _ hA) ?_
  by_cases f1 : few l0_7 = true
  · refine Ev.eq (fun k => by rw [if_pos f1]) (Ev.bind (few_ev _ _ _ _ _ _ _ _ hB) ?_)
    by_cases f2 : few l1_7 = true
    · refine Ev.eq (fun k => by rw [if_pos f2]) (Ev.bind (few_ev _ _ _ _ _ _ _ _ hC) ?_)
      by_cases f3 : few l2_7 = true
      · refine Ev.eq (fun k => by rw [f3]) ?_
        refine Ev.step (fun k => by rw [waveletlaw50_MetricsCompares.j0, if_neg (by decide)]) ?_
        refine Ev.bind (closer_ev _ _ _ _ _ _ _ _ hA _ _ _ _ _ _ _ _ hB _ _ _ _ _ _ _ _ hC) (Ev.bind (rcloser_ev _ _ _ _ _ _ _ _ hA f1 _ _ _ _ _ _ _ _ hB _ _ _ _ _ _ _ _ hC) ?_)
        refine Ev.eq (fun k => by rw [if_pos rfl, if_pos rfl]) (Ev.bind (equal_ev _ _ _ _ _ _ _ _ hB _ _ _ _ _ _ _ _) (Ev.bind (requal_ev _ _ _ _ _ _ _ _ hB _ _ _ _ _ _ _ _) ?_))
        refine Ev.eq (fun k => by rw [beq_self_eq_true, if_pos rfl]) (Ev.bind (equal_ev _ _ _ _ _ _ _ _ hA _ _ _ _ _ _ _ _) (Ev.bind (requal_ev _ _ _ _ _ _ _ _ hA _ _ _ _ _ _ _ _) ?_))
        refine Ev.eq (fun k => by rw [beq_self_eq_true, if_pos rfl]) ?_
        exact hex
      · refine Ev.eq (fun k => by rw [Bool.eq_false_iff.mpr f3]) ?_
        exact hj
    · refine Ev.eq (fun k => by rw [if_neg f2]) ?_
      exact hj
  · refine Ev.eq (fun k => by rw [if_neg f1]) ?_
    exact hj
end Go.Proofs.Ytfihdlekeainpaa.Pure
