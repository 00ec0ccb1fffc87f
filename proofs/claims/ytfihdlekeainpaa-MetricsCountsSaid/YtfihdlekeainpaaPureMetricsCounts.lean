/- MetricsCounts: Histogram returns the counts that the specification returns, or the error, for planes of at most 400 samples. -/
import Derived.Test.YtfihdlekeainpaaPureHist
import Derived.Test.YtfihdlekeainpaaPureInts
import Derived.Test.YtfihdlekeainpaaQ40
namespace Go.Proofs.Ytfihdlekeainpaa.Pure
open Go.RowKit Go.Proofs.Ytfihdlekeainpaa.Q Go.Proofs.YtfihdlekeainpaaW.PrintWords
set_option linter.unusedVariables false
theorem rvalid_eq (a b c d : Int) : waveletref01_Valid.f a b c d = some (decide (Valid a b c d)) := valid_eq a b c d
theorem rarea_eq (a b c d : Int) : waveletref01_Area.f a b c d = some (Area a b c d) := area_eq a b c d
theorem rpvalid_eq (a b c d : Int) (l : List Int) : waveletref02_Valid.f a b c d l = some (decide (VP a b c d l)) := by
  unfold waveletref02_Valid.f
  rw [rvalid_eq, rarea_eq]
  simp only [Option.bind_some, decide_eq_true_eq]
  by_cases h : Valid a b c d
  · rw [if_pos h]
    by_cases h2 : Area a b c d ≤ 1048576
    · rw [if_pos h2]
      congr 1
      rw [Bool.eq_iff_iff]
      simp only [beq_iff_eq, decide_eq_true_eq]
      exact ⟨fun e => ⟨h, h2, e⟩, fun e => e.2.2⟩
    · rw [if_neg h2]
      congr 1
      symm
      rw [decide_eq_false_iff_not]
      exact fun e => h2 e.2.1
  · rw [if_neg h]
    congr 1
    symm
    rw [decide_eq_false_iff_not]
    exact fun e => h e.1
theorem rlimits_l0 (a b c d : Int) (l : List Int) (hl : l.length < 1000000000000000) : ∀ post pre x y, l = pre ++ post → Ev (fun k => waveletref02_Limits.l0 k x y (pre.length : Int) a b c d l) (post.foldl mn x, post.foldl mx y, true) := by
  intro post
  induction post with
  | nil =>
    intro pre x y h
    rw [List.append_nil] at h
    subst h
    refine Ev.step (fun k => by rw [waveletref02_Limits.l0, if_neg (by omega)]) ?_
    exact Ev.const _
  | cons z post ih =>
    intro pre x y h
    have hx : rd l (pre.length : Int) = z := by rw [h]; exact rd_at _ _ _
    have hi : (pre.length : Int) < (l.length : Int) := by rw [h]; exact in_app _ _ _
    have hs : wrap64 ((pre.length : Int) + 1) = ((pre ++ [z]).length : Int) := nx pre z (by omega)
    refine Ev.step (fun k => by rw [waveletref02_Limits.l0, if_pos hi, if_pos (by omega), hx, hs]) ?_
    exact ih (pre ++ [z]) (mn x z) (mx y z) (by simp [h])
theorem rlimits_ev (a b c d : Int) (l : List Int) (hl : l.length < 1000000000000000) : Ev (fun k => waveletref02_Limits.f k a b c d l) (LM a b c d l) := by
  unfold LM
  by_cases h : VP a b c d l
  · by_cases h2 : l = []
    · rw [if_neg (fun e => e.2 h2)]
      refine Ev.eq (fun k => by rw [waveletref02_Limits.f, rpvalid_eq, Option.bind_some, if_pos (decide_eq_true h), h2]) ?_
      refine Ev.step (fun k => by rw [waveletref02_Limits.j0, if_pos (by decide)]) ?_
      exact Ev.const _
    · rw [if_pos ⟨h, h2⟩]
      have h3 : 0 < l.length := by cases l with
        | nil => exact absurd rfl h2
        | cons x t => simp
      refine Ev.eq (fun k => by rw [waveletref02_Limits.f, rpvalid_eq, Option.bind_some, if_pos (decide_eq_true h), show ((l.length : Int) == 0) = false by rw [beq_eq_false_iff_ne]; omega]) ?_
      refine Ev.step (fun k => by rw [waveletref02_Limits.j0, if_neg (by decide), if_pos (by omega)]) ?_
      exact rlimits_l0 a b c d l hl l [] (rd l 0) (rd l 0) rfl
  · rw [if_neg (fun e => h e.1)]
    refine Ev.eq (fun k => by rw [waveletref02_Limits.f, rpvalid_eq, Option.bind_some, if_neg (by simpa using h)]) ?_
    refine Ev.step (fun k => by rw [waveletref02_Limits.j0, if_pos rfl]) ?_
    exact Ev.const _
theorem rhist_l0 (a b c0 d : Int) (l : List Int) (hl : l.length < 1000000000000000) (low : Int) (n : Nat) (hr : ∀ x ∈ l, 0 ≤ x - low ∧ x - low < n) (hn : n ≤ 70000) :
    ∀ post pre c, l = pre ++ post → c.length = n → Ev (fun k => waveletref50_Histogram.l0 k low c (pre.length : Int) a b c0 d l) (low, post.foldl (hStep low) c, 0) := by
  intro post
  induction post with
  | nil =>
    intro pre c h hc
    rw [List.append_nil] at h
    subst h
    refine Ev.step (fun k => by rw [waveletref50_Histogram.l0, if_neg (by omega)]) ?_
    exact Ev.const _
  | cons z post ih =>
    intro pre c h hc
    have hx : rd l (pre.length : Int) = z := by rw [h]; exact rd_at _ _ _
    have hi : (pre.length : Int) < (l.length : Int) := by rw [h]; exact in_app _ _ _
    have hs : wrap64 ((pre.length : Int) + 1) = ((pre ++ [z]).length : Int) := nx pre z (by omega)
    have hz := hr z (by rw [h]; simp)
    have hw : wrap64 (z - low) = z - low := by unfold wrap64; omega
    refine Ev.step (fun k => by rw [waveletref50_Histogram.l0, if_pos hi, if_pos (by omega), hx, if_pos (by omega), if_pos (by omega), hs]) ?_
    exact ih (pre ++ [z]) (hStep low c z) (by simp [h]) (by rw [hStep_len, hc])
theorem rhist_ev (a b c d : Int) (l : List Int) (hl : l.length < 1000000000000000) (hw : Wf l) : Ev (fun k => waveletref50_Histogram.f k a b c d l) (HG a b c d l) := by
  refine Ev.bind (rlimits_ev a b c d l hl) ?_
  unfold HG LM
  by_cases h : VP a b c d l ∧ l ≠ []
  · rw [if_pos h, if_pos h]
    obtain ⟨l1, l2⟩ := lo_is h.2
    obtain ⟨h1, h2⟩ := hi_is h.2
    have b1 := hw _ l1
    have b2 := hw _ h1
    have b3 := l2 _ h1
    have e : IntKind.u64.wrap (IntKind.u64.wrap (hi l) - IntKind.u64.wrap (lo l)) = hi l - lo l := by rw [w64, w64, w64]; omega
    show Ev (fun k => if true = true then _ else _) _
    refine Ev.eq (fun k => by rw [if_pos rfl, e]) ?_
    by_cases h3 : hi l - lo l ≥ 65536
    · rw [if_pos h3]
      refine Ev.eq (fun k => by rw [if_pos h3]) ?_
      exact Ev.const _
    · rw [if_neg h3]
      have e2 : wrap64 (wrap64 (hi l - lo l) + 1) = hi l - lo l + 1 := by unfold wrap64; omega
      refine Ev.eq (fun k => by rw [if_neg h3, e2, if_pos (by omega), if_pos (by omega)]) ?_
      exact rhist_l0 a b c d l hl (lo l) (hi l - lo l + 1).toNat (fun x hx => by have := l2 x hx; have := h2 x hx; omega) (by omega) l [] _ rfl (by simp)
  · rw [if_neg h, if_neg h]
    refine Ev.eq (fun k => by rw [if_neg (by decide)]) ?_
    exact Ev.const _
theorem MetricsCounts (a0_0 : Int) (a0_1 : Int) (a0_2 : Int) (a0_3 : Int) (l0_4 : List (Int)) (w0_0 : (Lit.int .i64 a0_0).wf = true) (w0_1 : (Lit.int .i64 a0_1).wf = true) (w0_2 : (Lit.int .i64 a0_2).wf = true) (w0_3 : (Lit.int .i64 a0_3).wf = true) (y0_4 : l0_4.length * 8 ≤ 140737488351232) (w0_4 : ∀ x ∈ l0_4, (Lit.int .i64 x).wf = true) : ∃ k, waveletlaw50_MetricsCounts.f k a0_0 a0_1 a0_2 a0_3 l0_4 = some true := by
  have hl : l0_4.length < 1000000000000000 := by omega
  have hw : Wf l0_4 := fun x hx => wf_bd (w0_4 x hx)
  clear w0_0 w0_1 w0_2 w0_3 y0_4 w0_4
  refine Ev.ex (v := true) ?_
  have hex : Ev (fun k => (waveletlaw50_exampleHolds.f k).bind fun t => some t) true := Ev.bind example_holds (Ev.const _)
  refine Ev.bind (a := decide ((l0_4.length : Int) ≤ 400)) (Ev.const _) ?_
  by_cases f1 : (l0_4.length : Int) ≤ 400
  · refine Ev.eq (fun k => by rw [decide_eq_true f1, if_pos rfl]) (Ev.bind (hist_ev _ _ _ _ _ hl hw) (Ev.bind (rhist_ev _ _ _ _ _ hl hw) ?_))
    have hn : (HG a0_0 a0_1 a0_2 a0_3 l0_4).2.1.length < 1000000000000000 := by
      unfold HG
      split
      · split
        · simp
        · have e : ∀ (p c : List Int), (p.foldl (hStep (lo l0_4)) c).length = c.length := by
            intro p
            induction p with
            | nil => intro c; rfl
            | cons x p ih => intro c; show (p.foldl _ (hStep _ c x)).length = _; rw [ih, hStep_len]
          show (l0_4.foldl (hStep (lo l0_4)) _).length < _
          rw [e, List.length_replicate]
          omega
      · simp
    refine Ev.eq (fun k => by rw [if_pos rfl, if_pos rfl]) (Ev.bind (ints_ev _ _ hn) ?_)
    refine Ev.eq (fun k => by rw [decide_eq_true rfl, if_pos rfl]) ?_
    exact hex
  · refine Ev.eq (fun k => by rw [decide_eq_false f1, if_neg (by decide)]) ?_
    exact hex
end Go.Proofs.Ytfihdlekeainpaa.Pure
