/- What Limits and Histogram compute: the counts of the samples, from the smallest to the greatest. -/
import Derived.Test.YtfihdlekeainpaaPureLib
namespace Go.Proofs.Ytfihdlekeainpaa.Pure
open Go.RowKit Go.Proofs.Ytfihdlekeainpaa.Q Go.Proofs.YtfihdlekeainpaaW.PrintWords
set_option linter.unusedVariables false

def Wf (l : List Int) : Prop := ∀ x ∈ l, -9223372036854775808 ≤ x ∧ x ≤ 9223372036854775807
theorem wf_bd {a : Int} (h : (Lit.int .i64 a).wf = true) : -9223372036854775808 ≤ a ∧ a ≤ 9223372036854775807 := by
  simp [Lit.wf, IntKind.min, IntKind.max, IntKind.signed, IntKind.bits] at h
  omega
theorem mns (a b : Int) : mn a b ≤ a ∧ mn a b ≤ b ∧ (mn a b = a ∨ mn a b = b) := by unfold mn; omega
theorem mxq (a b : Int) : a ≤ mx a b ∧ b ≤ mx a b ∧ (mx a b = a ∨ mx a b = b) := by unfold mx; omega
theorem fold_mn : ∀ (l : List Int) (a : Int), l.foldl mn a ≤ a ∧ (∀ x ∈ l, l.foldl mn a ≤ x) ∧ (l.foldl mn a = a ∨ l.foldl mn a ∈ l)
  | [], a => ⟨Int.le_refl _, fun x hx => by simp at hx, Or.inl rfl⟩
  | b :: t, a => by
    have h := fold_mn t (mn a b)
    have e := mns a b
    show t.foldl mn (mn a b) ≤ a ∧ (∀ x ∈ b :: t, t.foldl mn (mn a b) ≤ x) ∧ (t.foldl mn (mn a b) = a ∨ t.foldl mn (mn a b) ∈ b :: t)
    refine ⟨by omega, fun x hx => ?_, ?_⟩
    · rcases List.mem_cons.mp hx with rfl | hx
      · omega
      · exact h.2.1 x hx
    · rcases h.2.2 with h3 | h3
      · rcases e.2.2 with e3 | e3
        · exact Or.inl (by omega)
        · exact Or.inr (by rw [h3, e3]; simp)
      · exact Or.inr (by simp [h3])
theorem fold_mx : ∀ (l : List Int) (a : Int), a ≤ l.foldl mx a ∧ (∀ x ∈ l, x ≤ l.foldl mx a) ∧ (l.foldl mx a = a ∨ l.foldl mx a ∈ l)
  | [], a => ⟨Int.le_refl _, fun x hx => by simp at hx, Or.inl rfl⟩
  | b :: t, a => by
    have h := fold_mx t (mx a b)
    have e := mxq a b
    show a ≤ t.foldl mx (mx a b) ∧ (∀ x ∈ b :: t, x ≤ t.foldl mx (mx a b)) ∧ (t.foldl mx (mx a b) = a ∨ t.foldl mx (mx a b) ∈ b :: t)
    refine ⟨by omega, fun x hx => ?_, ?_⟩
    · rcases List.mem_cons.mp hx with rfl | hx
      · omega
      · exact h.2.1 x hx
    · rcases h.2.2 with h3 | h3
      · rcases e.2.2 with e3 | e3
        · exact Or.inl (by omega)
        · exact Or.inr (by rw [h3, e3]; simp)
      · exact Or.inr (by simp [h3])
/-- The smallest and the greatest sample of a list that is not empty. -/
def lo (l : List Int) : Int := l.foldl mn (rd l 0)
def hi (l : List Int) : Int := l.foldl mx (rd l 0)
theorem rd0_mem {l : List Int} (h : l ≠ []) : rd l 0 ∈ l := by
  cases l with
  | nil => exact absurd rfl h
  | cons a t => simp [rd]
theorem lo_is {l : List Int} (h : l ≠ []) : lo l ∈ l ∧ ∀ x ∈ l, lo l ≤ x := by
  have h1 := fold_mn l (rd l 0)
  refine ⟨?_, h1.2.1⟩
  rcases h1.2.2 with e | e
  · unfold lo; rw [e]; exact rd0_mem h
  · exact e
theorem hi_is {l : List Int} (h : l ≠ []) : hi l ∈ l ∧ ∀ x ∈ l, x ≤ hi l := by
  have h1 := fold_mx l (rd l 0)
  refine ⟨?_, h1.2.1⟩
  rcases h1.2.2 with e | e
  · unfold hi; rw [e]; exact rd0_mem h
  · exact e
def LM (a b c d : Int) (l : List Int) : Int × Int × Bool := if VP a b c d l ∧ l ≠ [] then (lo l, hi l, true) else (0, 0, false)
theorem limits_l0 (l : List Int) (hl : l.length < 1000000000000000) : ∀ post pre x y, l = pre ++ post → Ev (fun k => plane_Limits.l0 k x y l (l.length : Int) (pre.length : Int)) (post.foldl mn x, post.foldl mx y, true) := by
  intro post
  induction post with
  | nil =>
    intro pre x y h
    rw [List.append_nil] at h
    subst h
    refine Ev.step (fun k => by rw [plane_Limits.l0, if_neg (by omega)]) ?_
    exact Ev.const _
  | cons z post ih =>
    intro pre x y h
    have hx : rd l (pre.length : Int) = z := by rw [h]; exact rd_at _ _ _
    have hi : (pre.length : Int) < (l.length : Int) := by rw [h]; exact in_app _ _ _
    have hs : wrap64 ((pre.length : Int) + 1) = ((pre ++ [z]).length : Int) := nx pre z (by omega)
    refine Ev.step (fun k => by rw [plane_Limits.l0, if_pos hi, if_pos (by omega), if_pos hi, hx, hs]) ?_
    exact ih (pre ++ [z]) (mn x z) (mx y z) (by simp [h])
theorem limits_ev (a b c d : Int) (l : List Int) (hl : l.length < 1000000000000000) : Ev (fun k => plane_Limits.f k a b c d l) (LM a b c d l) := by
  unfold LM
  by_cases h : VP a b c d l
  · by_cases h2 : l = []
    · rw [if_neg (fun e => e.2 h2)]
      refine Ev.eq (fun k => by rw [plane_Limits.f, pvalid_eq, Option.bind_some, if_pos (decide_eq_true h), h2]) ?_
      refine Ev.step (fun k => by rw [plane_Limits.j0, if_pos (by decide)]) ?_
      exact Ev.const _
    · rw [if_pos ⟨h, h2⟩]
      have h3 : 0 < l.length := by cases l with
        | nil => exact absurd rfl h2
        | cons x t => simp
      refine Ev.eq (fun k => by rw [plane_Limits.f, pvalid_eq, Option.bind_some, if_pos (decide_eq_true h), show ((l.length : Int) == 0) = false by rw [beq_eq_false_iff_ne]; omega]) ?_
      refine Ev.step (fun k => by rw [plane_Limits.j0, if_neg (by decide), if_pos (by omega)]) ?_
      exact limits_l0 l hl l [] (rd l 0) (rd l 0) rfl
  · rw [if_neg (fun e => h e.1)]
    refine Ev.eq (fun k => by rw [plane_Limits.f, pvalid_eq, Option.bind_some, if_neg (by simpa using h)]) ?_
    refine Ev.step (fun k => by rw [plane_Limits.j0, if_pos rfl]) ?_
    exact Ev.const _

/-! ### Histogram -/
def hStep (low : Int) (c : List Int) (x : Int) : List Int := c.set (wrap64 (x - low)).toNat (wrap64 (rd c (wrap64 (x - low)) + 1))
theorem hStep_len (low : Int) (c : List Int) (x : Int) : (hStep low c x).length = c.length := by unfold hStep; simp
def HG (a b c d : Int) (l : List Int) : Int × List Int × Int :=
  if VP a b c d l ∧ l ≠ [] then (if hi l - lo l ≥ 65536 then (0, [], 5) else (lo l, l.foldl (hStep (lo l)) (List.replicate (hi l - lo l + 1).toNat 0), 0)) else (0, [], 1)
theorem w64 (x : Int) : IntKind.u64.wrap x = x % 18446744073709551616 := rfl
theorem hist_l0 (l : List Int) (hl : l.length < 1000000000000000) (low : Int) (n : Nat) (hr : ∀ x ∈ l, 0 ≤ x - low ∧ x - low < n) (hn : n ≤ 70000) :
    ∀ post pre c, l = pre ++ post → c.length = n → Ev (fun k => metrics_Histogram.l0 k low c l (l.length : Int) (pre.length : Int)) (low, post.foldl (hStep low) c, 0) := by
  intro post
  induction post with
  | nil =>
    intro pre c h hc
    rw [List.append_nil] at h
    subst h
    refine Ev.step (fun k => by rw [metrics_Histogram.l0, if_neg (by omega)]) ?_
    exact Ev.const _
  | cons z post ih =>
    intro pre c h hc
    have hx : rd l (pre.length : Int) = z := by rw [h]; exact rd_at _ _ _
    have hi : (pre.length : Int) < (l.length : Int) := by rw [h]; exact in_app _ _ _
    have hs : wrap64 ((pre.length : Int) + 1) = ((pre ++ [z]).length : Int) := nx pre z (by omega)
    have hz := hr z (by rw [h]; simp)
    have hw : wrap64 (z - low) = z - low := by unfold wrap64; omega
    refine Ev.step (fun k => by rw [metrics_Histogram.l0, if_pos hi, if_pos (by omega), if_pos hi, hx, if_pos (by omega), if_pos (by omega), hs]) ?_
    exact ih (pre ++ [z]) (hStep low c z) (by simp [h]) (by rw [hStep_len, hc])
theorem hist_ev (a b c d : Int) (l : List Int) (hl : l.length < 1000000000000000) (hw : Wf l) : Ev (fun k => metrics_Histogram.f k a b c d l) (HG a b c d l) := by
  refine Ev.bind (limits_ev a b c d l hl) ?_
  unfold HG LM
  by_cases h : VP a b c d l ∧ l ≠ []
  · rw [if_pos h, if_pos h]
    obtain ⟨l1, l2⟩ := lo_is h.2
    obtain ⟨h1, h2⟩ := hi_is h.2
    have b1 := hw _ l1
    have b2 := hw _ h1
    have b3 := l2 _ h1
    have e : IntKind.u64.wrap (IntKind.u64.wrap (hi l) - IntKind.u64.wrap (lo l)) = hi l - lo l := by rw [w64, w64, w64]; omega
    show Ev (fun k => if true = true then _ else _) _
    refine Ev.eq (fun k => by rw [if_pos rfl, e]) ?_
    by_cases h3 : hi l - lo l ≥ 65536
    · rw [if_pos h3]
      refine Ev.eq (fun k => by rw [if_pos h3]) ?_
      exact Ev.const _
    · rw [if_neg h3]
      have e2 : IntKind.u64.wrap (hi l - lo l + 1) = hi l - lo l + 1 := by rw [w64]; omega
      refine Ev.eq (fun k => by rw [if_neg h3, e2, if_pos (by omega), if_pos (by omega)]) ?_
      exact hist_l0 l hl (lo l) (hi l - lo l + 1).toNat (fun x hx => by have := l2 x hx; have := h2 x hx; omega) (by omega) l [] _ rfl (by simp)
  · rw [if_neg h, if_neg h]
    refine Ev.eq (fun k => by rw [if_neg (by decide)]) ?_
    exact Ev.const _
end Go.Proofs.Ytfihdlekeainpaa.Pure
