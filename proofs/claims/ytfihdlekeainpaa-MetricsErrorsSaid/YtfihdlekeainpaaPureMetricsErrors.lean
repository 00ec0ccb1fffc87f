/- MetricsErrors: SquaredError and MaxError return what the specification returns, for images of at most 2000 samples. -/
import Derived.Test.YtfihdlekeainpaaPureRef
import Derived.Test.YtfihdlekeainpaaQ31
namespace Go.Proofs.Ytfihdlekeainpaa.Pure
open Go.RowKit Go.Proofs.Ytfihdlekeainpaa.Q Go.Proofs.YtfihdlekeainpaaW.PrintWords
set_option linter.unusedVariables false
theorem rmx_l1 (a0 a1 a2 a3 a4 a5 : Int) (l : List S51) (A : List S42) (b0 b1 b2 b3 b4 b5 : Int) (l' : List S51) (B : List S42) (i : Int) (hi : 0 ≤ i) (hia : i < A.length) (hib : i < B.length) (p q : List Int) (hq1 : (rd_T42 A i).f1 = p) (hq : (rd_T42 B i).f1 = q) (hp : p.length < 1000000000000000) (R : Int → Int × Int)
    (hout : ∀ s, Ev (fun k => waveletref50_MaxError.l0 k s (wrap64 (i + 1)) a0 a1 a2 a3 a4 a5 l A b0 b1 b2 b3 b4 b5 l' B) (R s)) :
    ∀ post postq pre preq s, p = pre ++ post → q = preq ++ postq → pre.length = preq.length → post.length = postq.length →
      Ev (fun k => waveletref50_MaxError.l1 k s i (pre.length : Int) a0 a1 a2 a3 a4 a5 l A b0 b1 b2 b3 b4 b5 l' B) (R ((post.zip postq).foldl mxStep s)) := by
  intro post
  induction post with
  | nil =>
    intro postq pre preq s h h' hl hpq
    rw [List.append_nil] at h
    refine Ev.step (fun k => by rw [waveletref50_MaxError.l1, if_pos hi, if_pos hia, if_neg (by rw [hq1, h]; omega)]) ?_
    exact hout s
  | cons x post ih =>
    intro postq pre preq s h h' hl hpq
    match postq, hpq with
    | y :: postq, hpq =>
      have hx : rd (rd_T42 A i).f1 (pre.length : Int) = x := by rw [hq1, h]; exact rd_at _ _ _
      have hy : rd (rd_T42 B i).f1 (pre.length : Int) = y := by rw [hq, h', hl]; exact rd_at _ _ _
      have hi1 : (pre.length : Int) < ((rd_T42 A i).f1.length : Int) := by rw [hq1, h]; exact in_app _ _ _
      have hi2 : (pre.length : Int) < ((rd_T42 B i).f1.length : Int) := by rw [hq, h', hl]; exact in_app _ _ _
      have hs : wrap64 ((pre.length : Int) + 1) = ((pre ++ [x]).length : Int) := nx pre x (by rw [hq1] at hi1; omega)
      refine Ev.step (fun k => by rw [waveletref50_MaxError.l1, if_pos hi, if_pos hia, if_pos hi1, if_pos (by omega), if_pos hib, if_pos hi2, hx, hy, hs]) ?_
      exact ih postq (pre ++ [x]) (preq ++ [y]) (mxStep s (x, y)) (by simp [h]) (by simp [h']) (by simp [hl]) (by simpa using hpq)
theorem rmx_l0 (a0 a1 a2 a3 a4 a5 : Int) (l : List S51) (A : List S42) (hA : Fin A) (b0 b1 b2 b3 b4 b5 : Int) (l' : List S51) (B : List S42) :
    ∀ postA postB preA preB s, A = preA ++ postA → B = preB ++ postB → preA.length = preB.length → Alike postA postB →
      Ev (fun k => waveletref50_MaxError.l0 k s (preA.length : Int) a0 a1 a2 a3 a4 a5 l A b0 b1 b2 b3 b4 b5 l' B) ((PP postA postB).foldl mxStep s, 0) := by
  intro postA
  induction postA with
  | nil =>
    intro postB preA preB s h h' hl hp
    rw [List.append_nil] at h
    subst h
    refine Ev.step (fun k => by rw [waveletref50_MaxError.l0, if_neg (by omega)]) ?_
    exact Ev.const _
  | cons x postA ih =>
    intro postB preA preB s h h' hl hp
    match postB, hp with
    | y :: postB, hp =>
      have hx : rd_T42 A (preA.length : Int) = x := by rw [h]; exact rdT_at _ _ _
      have hy : rd_T42 B (preA.length : Int) = y := by rw [h', hl]; exact rdT_at _ _ _
      have hi : (preA.length : Int) < (A.length : Int) := by rw [h]; exact in_app _ _ _
      have hj : (preA.length : Int) < (B.length : Int) := by rw [h', hl]; exact in_app _ _ _
      have hs : wrap64 ((preA.length : Int) + 1) = ((preA ++ [x]).length : Int) := nx preA x (by have := hA.1; omega)
      have hxy : x.f1.length = y.f1.length := hp.2 (x, y) (by simp)
      refine Ev.step (fun k => by rw [waveletref50_MaxError.l0, if_pos hi]) ?_
      have h1 := rmx_l1 a0 a1 a2 a3 a4 a5 l A b0 b1 b2 b3 b4 b5 l' B (preA.length : Int) (by omega) hi hj x.f1 y.f1 (by rw [hx]) (by rw [hy]) (hA.2 x (by rw [h]; simp))
        (fun s => ((PP postA postB).foldl mxStep s, 0))
        (fun s => by rw [hs]; exact ih postB (preA ++ [x]) (preB ++ [y]) s (by simp [h]) (by simp [h']) (by simp [hl]) ⟨by simpa using hp.1, fun z hz => hp.2 z (by simp [hz])⟩)
        x.f1 y.f1 [] [] s rfl rfl rfl hxy
      have e : PP (x :: postA) (y :: postB) = x.f1.zip y.f1 ++ PP postA postB := rfl
      rw [e, List.foldl_append]
      exact h1
theorem rmx_ev (a0 a1 a2 a3 a4 a5 : Int) (l : List S51) (A : List S42) (hA : Fin A) (b0 b1 b2 b3 b4 b5 : Int) (l' : List S51) (B : List S42) (hB : Fin B) :
    Ev (fun k => waveletref50_MaxError.f k a0 a1 a2 a3 a4 a5 l A b0 b1 b2 b3 b4 b5 l' B) (MX A B) := by
  unfold MX
  refine Ev.bind (err_ev _ _ _ _ _ _ _ _ hA _ _ _ _ _ _ _ _ hB) ?_
  by_cases h : chk A B = 0
  · rw [if_pos h]
    refine Ev.eq (fun k => by rw [if_pos h]) ?_
    exact rmx_l0 a0 a1 a2 a3 a4 a5 l A hA b0 b1 b2 b3 b4 b5 l' B A B [] [] 0 rfl rfl rfl (chk_alike h)
  · rw [if_neg h]
    refine Ev.eq (fun k => by rw [if_neg h]) ?_
    exact Ev.const _
theorem MetricsErrors (a0_0 : Int) (a0_1 : Int) (a0_2 : Int) (a0_3 : Int) (a0_4 : Int) (a0_5 : Int) (l0_6 : List (S51)) (l0_7 : List (S42)) (a1_0 : Int) (a1_1 : Int) (a1_2 : Int) (a1_3 : Int) (a1_4 : Int) (a1_5 : Int) (l1_6 : List (S51)) (l1_7 : List (S42)) (w0_0 : (Lit.int .i64 a0_0).wf = true) (w0_1 : (Lit.int .i64 a0_1).wf = true) (w0_2 : (Lit.int .i64 a0_2).wf = true) (w0_3 : (Lit.int .i64 a0_3).wf = true) (w0_4 : (Lit.int .i64 a0_4).wf = true) (w0_5 : (Lit.int .i64 a0_5).wf = true) (y0_6 : l0_6.length * 32 ≤ 140737488351232) (w0_6 : ∀ x ∈ l0_6, ((Lit.int .i64 x.f0).wf = true ∧ True ∧ (Lit.int .i64 x.f2).wf = true ∧ (Lit.int .i64 x.f3).wf = true)) (y0_7 : l0_7.length * 56 ≤ 140737488351232) (w0_7 : ∀ x ∈ l0_7, (((Lit.int .i64 x.f0.f0).wf = true ∧ (Lit.int .i64 x.f0.f1).wf = true ∧ (Lit.int .i64 x.f0.f2).wf = true ∧ (Lit.int .i64 x.f0.f3).wf = true) ∧ (x.f1.length * 8 ≤ 140737488351232 ∧ ∀ x_ ∈ x.f1, (Lit.int .i64 x_).wf = true))) (w1_0 : (Lit.int .i64 a1_0).wf = true) (w1_1 : (Lit.int .i64 a1_1).wf = true) (w1_2 : (Lit.int .i64 a1_2).wf = true) (w1_3 : (Lit.int .i64 a1_3).wf = true) (w1_4 : (Lit.int .i64 a1_4).wf = true) (w1_5 : (Lit.int .i64 a1_5).wf = true) (y1_6 : l1_6.length * 32 ≤ 140737488351232) (w1_6 : ∀ x ∈ l1_6, ((Lit.int .i64 x.f0).wf = true ∧ True ∧ (Lit.int .i64 x.f2).wf = true ∧ (Lit.int .i64 x.f3).wf = true)) (y1_7 : l1_7.length * 56 ≤ 140737488351232) (w1_7 : ∀ x ∈ l1_7, (((Lit.int .i64 x.f0.f0).wf = true ∧ (Lit.int .i64 x.f0.f1).wf = true ∧ (Lit.int .i64 x.f0.f2).wf = true ∧ (Lit.int .i64 x.f0.f3).wf = true) ∧ (x.f1.length * 8 ≤ 140737488351232 ∧ ∀ x_ ∈ x.f1, (Lit.int .i64 x_).wf = true))) : ∃ k, waveletlaw50_MetricsErrors.f k a0_0 a0_1 a0_2 a0_3 a0_4 a0_5 l0_6 l0_7 a1_0 a1_1 a1_2 a1_3 a1_4 a1_5 l1_6 l1_7 = some true := by
  have hA := fin_of y0_7 w0_7
  have hB := fin_of y1_7 w1_7
  clear w0_0 w0_1 w0_2 w0_3 w0_4 w0_5 y0_6 w0_6 y0_7 w0_7 w1_0 w1_1 w1_2 w1_3 w1_4 w1_5 y1_6 w1_6 y1_7 w1_7
  refine Ev.ex (v := true) ?_
  have hex : Ev (fun k => (waveletlaw50_exampleHolds.f k).bind fun t => some t) true := Ev.bind example_holds (Ev.const _)
  have hj : Ev (fun k => waveletlaw50_MetricsErrors.j0 k true a0_0 a0_1 a0_2 a0_3 a0_4 a0_5 l0_6 l0_7 a1_0 a1_1 a1_2 a1_3 a1_4 a1_5 l1_6 l1_7) true :=
    Ev.step (fun k => by rw [waveletlaw50_MetricsErrors.j0, if_pos rfl]) hex
  refine Ev.bind (few_ev _ _ _ _ _ _ _ _ hA) ?_
  by_cases f1 : few l0_7 = true
  · refine Ev.eq (fun k => by rw [if_pos f1]) (Ev.bind (few_ev _ _ _ _ _ _ _ _ hB) ?_)
    by_cases f2 : few l1_7 = true
    · refine Ev.eq (fun k => by rw [f2]) ?_
      refine Ev.step (fun k => by rw [waveletlaw50_MetricsErrors.j0, if_neg (by decide)]) ?_
      refine Ev.bind (sq_ev _ _ _ _ _ _ _ _ hA _ _ _ _ _ _ _ _ hB) (Ev.bind (rsq_ev _ _ _ _ _ _ _ _ hA f1 _ _ _ _ _ _ _ _ hB) (Ev.bind (mx_ev _ _ _ _ _ _ _ _ hA _ _ _ _ _ _ _ _ hB) (Ev.bind (rmx_ev _ _ _ _ _ _ _ _ hA _ _ _ _ _ _ _ _ hB) ?_)))
      refine Ev.eq (fun k => by rw [if_pos rfl, if_pos rfl, if_pos rfl, if_pos rfl, if_pos rfl]) ?_
      exact hex
    · refine Ev.eq (fun k => by rw [Bool.eq_false_iff.mpr f2]) ?_
      exact hj
  · refine Ev.eq (fun k => by rw [if_neg f1]) ?_
    exact hj
end Go.Proofs.Ytfihdlekeainpaa.Pure
