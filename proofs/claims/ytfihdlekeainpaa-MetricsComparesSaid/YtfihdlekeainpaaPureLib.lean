/- What the metrics functions compute, in plain numbers: used by the pure laws of this chapter. -/
import Derived.Test.YtfihdlekeainpaaQ23
namespace Go.Proofs.Ytfihdlekeainpaa.Pure
open Go.RowKit Go.Proofs.Ytfihdlekeainpaa.Q Go.Proofs.YtfihdlekeainpaaW.PrintWords
set_option linter.unusedVariables false

/-- From some number of rounds on, the answer is there. -/
def Ev {α : Type} (g : Nat → Option α) (v : α) : Prop := ∃ K, ∀ k, K ≤ k → g k = some v
theorem Ev.const {α : Type} (v : α) : Ev (fun _ => some v) v := ⟨0, fun _ _ => rfl⟩
theorem Ev.bind {α β : Type} {f : Nat → Option α} {h : Nat → α → Option β} {a : α} {v : β} (hf : Ev f a) (hh : Ev (fun k => h k a) v) : Ev (fun k => (f k).bind (h k)) v := by
  obtain ⟨K, hK⟩ := hf
  obtain ⟨L, hL⟩ := hh
  refine ⟨K + L, fun k hk => ?_⟩
  show (f k).bind (h k) = some v
  rw [hK k (by omega)]
  exact hL k (by omega)
theorem Ev.step {α : Type} {g g' : Nat → Option α} {v : α} (h : ∀ k, g (k + 1) = g' k) (hg : Ev g' v) : Ev g v := by
  obtain ⟨K, hK⟩ := hg
  refine ⟨K + 1, fun k hk => ?_⟩
  obtain ⟨j, rfl⟩ : ∃ j, k = j + 1 := ⟨k - 1, by omega⟩
  rw [h]
  exact hK j (by omega)
theorem Ev.eq {α : Type} {g g' : Nat → Option α} {v : α} (h : ∀ k, g k = g' k) (hg : Ev g' v) : Ev g v := by
  obtain ⟨K, hK⟩ := hg
  exact ⟨K, fun k hk => (h k).trans (hK k hk)⟩
theorem Ev.ex {α : Type} {g : Nat → Option α} {v : α} (h : Ev g v) : ∃ k, g k = some v := by
  obtain ⟨K, hK⟩ := h
  exact ⟨K, hK K (Nat.le_refl _)⟩
theorem Ev.at {α : Type} {g : Nat → Option α} {v : α} (h : ∀ k, LeO (g k) (g (k + 1))) (e : ∃ k, g k = some v) : Ev g v := by
  obtain ⟨K, hK⟩ := e
  exact ⟨K, fun k hk => at_rounds h hk hK⟩

theorem example_holds : Ev (fun k => waveletlaw50_exampleHolds.f k) true := Ev.at waveletlaw50_exampleHolds.mono ⟨1000, by kernel_rfl⟩

theorem rd_at (pre post : List Int) (x : Int) : rd (pre ++ x :: post) (pre.length : Int) = x := by simp [rd, List.getD]
theorem rdT_at (pre post : List S42) (x : S42) : rd_T42 (pre ++ x :: post) (pre.length : Int) = x := by simp [rd_T42, List.getD]
theorem rdC_at (pre post : List S51) (x : S51) : rd_T51 (pre ++ x :: post) (pre.length : Int) = x := by simp [rd_T51, List.getD]
theorem nx {α : Type} (pre : List α) (x : α) (h : pre.length < 1000000000000000) : wrap64 ((pre.length : Int) + 1) = ((pre ++ [x]).length : Int) := by
  rw [List.length_append, List.length_singleton]
  unfold wrap64
  omega
theorem in_app {α : Type} (pre post : List α) (x : α) : (pre.length : Int) < ((pre ++ x :: post).length : Int) := by
  rw [List.length_append, List.length_cons]; omega

/-! ### Validity -/
def Valid (a b c d : Int) : Prop := 0 ≤ a ∧ a ≤ c ∧ c ≤ 4096 ∧ 0 ≤ b ∧ b ≤ d ∧ d ≤ 4096
instance (a b c d : Int) : Decidable (Valid a b c d) := inferInstanceAs (Decidable (0 ≤ a ∧ a ≤ c ∧ c ≤ 4096 ∧ 0 ≤ b ∧ b ≤ d ∧ d ≤ 4096))
theorem valid_eq (a b c d : Int) : rect_Valid.f a b c d = some (decide (Valid a b c d)) := by
  unfold rect_Valid.f
  repeat' split
  all_goals (congr 1; first | (rw [decide_eq_decide]; unfold Valid; omega) | (symm; rw [decide_eq_false_iff_not]; unfold Valid; omega))
def Area (a b c d : Int) : Int := if Valid a b c d then (c - a) * (d - b) else 0
theorem mul_bd {x y m n : Int} (h0 : 0 ≤ x) (h1 : x ≤ m) (h2 : 0 ≤ y) (h3 : y ≤ n) : 0 ≤ x * y ∧ x * y ≤ m * n :=
  ⟨Int.mul_nonneg h0 h2, Int.mul_le_mul h1 h3 h2 (by omega)⟩
theorem area_eq (a b c d : Int) : rect_Area.f a b c d = some (Area a b c d) := by
  unfold rect_Area.f Area
  rw [valid_eq]
  simp only [Option.bind_some, decide_eq_true_eq]
  split
  · rename_i h
    have h' := h
    unfold Valid at h'
    congr 1
    have hm := @mul_bd (c - a) (d - b) 4096 4096 (by omega) (by omega) (by omega) (by omega)
    rw [show wrap64 (c - a) = c - a by unfold wrap64; omega, show wrap64 (d - b) = d - b by unfold wrap64; omega]
    unfold wrap64
    omega
  · rfl
/-- A plane that is valid. -/
def VP (a b c d : Int) (l : List Int) : Prop := Valid a b c d ∧ Area a b c d ≤ 1048576 ∧ (l.length : Int) = Area a b c d
instance (a b c d : Int) (l : List Int) : Decidable (VP a b c d l) := inferInstanceAs (Decidable (Valid a b c d ∧ Area a b c d ≤ 1048576 ∧ (l.length : Int) = Area a b c d))
theorem pvalid_eq (a b c d : Int) (l : List Int) : plane_Valid.f a b c d l = some (decide (VP a b c d l)) := by
  unfold plane_Valid.f
  rw [valid_eq, area_eq]
  simp only [Option.bind_some, decide_eq_true_eq]
  by_cases h : Valid a b c d
  · rw [if_pos h]
    by_cases h2 : Area a b c d ≤ 1048576
    · rw [if_pos h2]
      congr 1
      rw [Bool.eq_iff_iff]
      simp only [beq_iff_eq, decide_eq_true_eq]
      exact ⟨fun e => ⟨h, h2, e⟩, fun e => e.2.2⟩
    · rw [if_neg h2]
      congr 1
      symm
      rw [decide_eq_false_iff_not]
      exact fun e => h2 e.2.1
  · rw [if_neg h]
    congr 1
    symm
    rw [decide_eq_false_iff_not]
    exact fun e => h e.1
def V (p : S42) : Prop := VP p.f0.f0 p.f0.f1 p.f0.f2 p.f0.f3 p.f1
instance (p : S42) : Decidable (V p) := inferInstanceAs (Decidable (VP p.f0.f0 p.f0.f1 p.f0.f2 p.f0.f3 p.f1))
theorem pv (p : S42) : plane_Valid.f p.f0.f0 p.f0.f1 p.f0.f2 p.f0.f3 p.f1 = some (decide (V p)) := pvalid_eq _ _ _ _ _
def SR (p q : S42) : Bool := p.f0.f0 == q.f0.f0 && (p.f0.f1 == q.f0.f1 && (p.f0.f2 == q.f0.f2 && (p.f0.f3 == q.f0.f3)))
theorem SR_not (p q : S42) : (!(p.f0.f0 == q.f0.f0) || (!(p.f0.f1 == q.f0.f1) || (!(p.f0.f2 == q.f0.f2) || (!(p.f0.f3 == q.f0.f3))))) = !SR p q := by
  unfold SR
  simp only [Bool.not_and]
theorem SR_iff (p q : S42) : SR p q = true ↔ p.f0 = q.f0 := by
  unfold SR
  obtain ⟨⟨a, b, c, d⟩, l⟩ := p
  obtain ⟨⟨a', b', c', d'⟩, l'⟩ := q
  simp [S23.mk.injEq]
theorem len_same {p q : S42} (hp : V p) (hq : V q) (h : SR p q = true) : p.f1.length = q.f1.length := by
  rw [SR_iff] at h
  have h1 := hp.2.2
  have h2 := hq.2.2
  rw [h] at h1
  omega

/-! ### check -/
def InR (x : Int) : Bool := decide (x ≤ 65536) && decide (-65536 ≤ x)
def within (A : List S42) : Bool := A.all fun p => p.f1.all InR
def POk (x : S42 × S42) : Bool := decide (V x.1) && (decide (V x.2) && SR x.1 x.2)
def chk (A B : List S42) : Int :=
  if A.length = B.length ∧ 1 ≤ A.length ∧ A.length ≤ 4 then (if (A.zip B).all POk = true then (if within A = true then (if within B = true then 0 else 2) else 2) else 1) else 4
/-- No list is too long for a counter. -/
def Fin (A : List S42) : Prop := A.length < 1000000000000000 ∧ ∀ p ∈ A, p.f1.length < 1000000000000000

theorem within_l1 (A : List S42) (n i : Int) (p : List Int) (hp : p.length < 1000000000000000) (R : Bool) (hout : Ev (fun k => metrics_within.l0 k A n (wrap64 (i + 1))) R) :
    ∀ post pre, p = pre ++ post → Ev (fun k => metrics_within.l1 k A n i p (p.length : Int) (pre.length : Int)) (post.all InR && R) := by
  intro post
  induction post with
  | nil =>
    intro pre h
    rw [List.append_nil] at h
    subst h
    refine Ev.step (fun k => by rw [metrics_within.l1, if_neg (by omega)]) ?_
    simpa using hout
  | cons x post ih =>
    intro pre h
    have hx : rd p (pre.length : Int) = x := by rw [h]; exact rd_at _ _ _
    have hl : (pre.length : Int) < (p.length : Int) := by rw [h]; exact in_app _ _ _
    have hs : wrap64 ((pre.length : Int) + 1) = ((pre ++ [x]).length : Int) := nx pre x (by omega)
    by_cases h1 : x > 65536
    · refine Ev.step (fun k => by rw [metrics_within.l1, if_pos hl, if_pos (by omega), if_pos hl, hx, if_pos h1]) ?_
      have : InR x = false := by unfold InR; simp; omega
      simpa [this] using Ev.const false
    by_cases h2 : x < -65536
    · refine Ev.step (fun k => by rw [metrics_within.l1, if_pos hl, if_pos (by omega), if_pos hl, hx, if_neg h1, if_pos h2]) ?_
      have : InR x = false := by unfold InR; simp; omega
      simpa [this] using Ev.const false
    refine Ev.step (fun k => by rw [metrics_within.l1, if_pos hl, if_pos (by omega), if_pos hl, hx, if_neg h1, if_neg h2, hs]) ?_
    have : InR x = true := by unfold InR; simp; omega
    have h3 := ih (pre ++ [x]) (by simp [h])
    simpa [this] using h3
theorem within_l0 (A : List S42) (hA : Fin A) : ∀ post pre, A = pre ++ post → Ev (fun k => metrics_within.l0 k A (A.length : Int) (pre.length : Int)) (within post) := by
  intro post
  induction post with
  | nil =>
    intro pre h
    rw [List.append_nil] at h
    subst h
    refine Ev.step (fun k => by rw [metrics_within.l0, if_neg (by omega)]) ?_
    exact Ev.const _
  | cons x post ih =>
    intro pre h
    have hx : rd_T42 A (pre.length : Int) = x := by rw [h]; exact rdT_at _ _ _
    have hl : (pre.length : Int) < (A.length : Int) := by rw [h]; exact in_app _ _ _
    have hs : wrap64 ((pre.length : Int) + 1) = ((pre ++ [x]).length : Int) := nx pre x (by have := hA.1; omega)
    refine Ev.step (fun k => by rw [metrics_within.l0, if_pos hl, if_pos (by omega), if_pos hl, hx]) ?_
    have h3 := within_l1 A (A.length : Int) (pre.length : Int) x.f1 (hA.2 x (by rw [h]; simp)) (within post) (by rw [hs]; exact ih (pre ++ [x]) (by simp [h])) x.f1 [] rfl
    exact h3
theorem within_ev (a b c d e f : Int) (l : List S51) (A : List S42) (hA : Fin A) : Ev (fun k => metrics_within.f k a b c d e f l A) (within A) :=
  Ev.eq (g' := fun k => metrics_within.l0 k A (A.length : Int) (([] : List S42).length : Int)) (fun k => rfl) (within_l0 A hA A [] rfl)

theorem check_l0 (a0 a1 a2 a3 a4 a5 : Int) (l : List S51) (A : List S42) (hA : Fin A) (b0 b1 b2 b3 b4 b5 : Int) (l' : List S51) (B : List S42) (hB : Fin B) :
    ∀ postA postB preA preB, A = preA ++ postA → B = preB ++ postB → preA.length = preB.length → postA.length = postB.length →
      Ev (fun k => metrics_check.l0 k (A.length : Int) (preA.length : Int) a0 a1 a2 a3 a4 a5 l A b0 b1 b2 b3 b4 b5 l' B)
        (if (postA.zip postB).all POk = true then (if within A = true then (if within B = true then 0 else 2) else 2) else 1) := by
  intro postA
  induction postA with
  | nil =>
    intro postB preA preB h h' hl hp
    rw [List.append_nil] at h
    subst h
    refine Ev.step (fun k => by rw [metrics_check.l0, if_neg (by omega)]) ?_
    simp only [List.zip_nil_left, List.all_nil, if_true]
    refine Ev.bind (within_ev _ _ _ _ _ _ _ _ hA) ?_
    by_cases h1 : within A = true
    · rw [if_pos h1]
      simp only [h1, if_true]
      refine Ev.bind (within_ev _ _ _ _ _ _ _ _ hB) ?_
      split <;> exact Ev.const _
    · rw [if_neg h1]
      simp only [h1]
      exact Ev.const _
  | cons x postA ih =>
    intro postB preA preB h h' hl hp
    match postB, hp with
    | y :: postB, hp =>
      have hx : rd_T42 A (preA.length : Int) = x := by rw [h]; exact rdT_at _ _ _
      have hy : rd_T42 B (preA.length : Int) = y := by rw [h', hl]; exact rdT_at _ _ _
      have hi : (preA.length : Int) < (A.length : Int) := by rw [h]; exact in_app _ _ _
      have hj : (preA.length : Int) < (B.length : Int) := by rw [h', hl]; exact in_app _ _ _
      have hs : wrap64 ((preA.length : Int) + 1) = ((preA ++ [x]).length : Int) := nx preA x (by have := hA.1; omega)
      have hz : ((x :: postA).zip (y :: postB)).all POk = (POk (x, y) && (postA.zip postB).all POk) := rfl
      rw [hz]
      by_cases h1 : V x
      · by_cases h2 : V y
        · by_cases h3 : SR x y = true
          · have hok : POk (x, y) = true := by unfold POk; simp [h1, h2, h3]
            refine Ev.step (fun k => by rw [metrics_check.l0, if_pos hi, if_pos (by omega), if_pos hi, hx, pv, Option.bind_some, if_pos (decide_eq_true h1), if_pos hj, hy, pv, Option.bind_some, if_pos (decide_eq_true h2), SR_not, h3, if_neg (by decide), hs]) ?_
            have h4 := ih postB (preA ++ [x]) (preB ++ [y]) (by simp [h]) (by simp [h']) (by simp [hl]) (by simpa using hp)
            rw [hok, Bool.true_and]
            exact h4
          · have hok : POk (x, y) = false := by unfold POk; simp [h3]
            refine Ev.step (fun k => by rw [metrics_check.l0, if_pos hi, if_pos (by omega), if_pos hi, hx, pv, Option.bind_some, if_pos (decide_eq_true h1), if_pos hj, hy, pv, Option.bind_some, if_pos (decide_eq_true h2), SR_not, Bool.eq_false_iff.mpr h3, if_pos (by decide)]) ?_
            (rw [hok, Bool.false_and]; exact Ev.const 1)
        · have hok : POk (x, y) = false := by unfold POk; simp [h2]
          refine Ev.step (fun k => by rw [metrics_check.l0, if_pos hi, if_pos (by omega), if_pos hi, hx, pv, Option.bind_some, if_pos (decide_eq_true h1), if_pos hj, hy, pv, Option.bind_some, if_neg (by simpa using h2)]) ?_
          (rw [hok, Bool.false_and]; exact Ev.const 1)
      · have hok : POk (x, y) = false := by unfold POk; simp [h1]
        refine Ev.step (fun k => by rw [metrics_check.l0, if_pos hi, if_pos (by omega), if_pos hi, hx, pv, Option.bind_some, if_neg (by simpa using h1)]) ?_
        (rw [hok, Bool.false_and]; exact Ev.const 1)

theorem check_ev (a0 a1 a2 a3 a4 a5 : Int) (l : List S51) (A : List S42) (hA : Fin A) (b0 b1 b2 b3 b4 b5 : Int) (l' : List S51) (B : List S42) (hB : Fin B) :
    Ev (fun k => metrics_check.f k a0 a1 a2 a3 a4 a5 l A b0 b1 b2 b3 b4 b5 l' B) (chk A B) := by
  unfold chk
  by_cases h1 : A.length = B.length
  · by_cases h2 : A.length < 1
    · rw [if_neg (by omega)]
      refine Ev.eq (fun k => by rw [metrics_check.f, if_pos (by omega), if_pos (by omega)]) ?_
      refine Ev.step (fun k => by rw [metrics_check.j0, if_pos rfl]) ?_
      exact Ev.const _
    · by_cases h3 : A.length ≤ 4
      · rw [if_pos ⟨h1, by omega, h3⟩]
        refine Ev.eq (fun k => by rw [metrics_check.f, if_pos (by omega), if_neg (by omega), decide_eq_false (by omega)]) ?_
        refine Ev.step (fun k => by rw [metrics_check.j0, if_neg (by decide)]) ?_
        exact check_l0 a0 a1 a2 a3 a4 a5 l A hA b0 b1 b2 b3 b4 b5 l' B hB A B [] [] rfl rfl rfl h1
      · rw [if_neg (by omega)]
        refine Ev.eq (fun k => by rw [metrics_check.f, if_pos (by omega), if_neg (by omega), decide_eq_true (by omega)]) ?_
        refine Ev.step (fun k => by rw [metrics_check.j0, if_pos rfl]) ?_
        exact Ev.const _
  · rw [if_neg (fun h => h1 h.1)]
    refine Ev.eq (fun k => by rw [metrics_check.f, if_neg (by omega)]) ?_
    refine Ev.step (fun k => by rw [metrics_check.j0, if_pos rfl]) ?_
    exact Ev.const _

/-! ### SquaredError, MaxError -/
def sqStep (s : Int) (d : Int × Int) : Int := wrap64 (s + wrap64 (wrap64 (d.1 - d.2) * wrap64 (d.1 - d.2)))
def mxStep (m : Int) (d : Int × Int) : Int := mx (mx m (wrap64 (d.1 - d.2))) (wrap64 (-(wrap64 (d.1 - d.2))))
/-- The pairs of samples. -/
def PP (A B : List S42) : List (Int × Int) := (A.zip B).flatMap fun x => x.1.f1.zip x.2.f1
def cnt (A : List S42) (c : Int) : Int := A.foldl (fun n p => wrap64 (n + (p.f1.length : Int))) c
/-- Two lists of planes whose planes are as long as each other. -/
def Alike (A B : List S42) : Prop := A.length = B.length ∧ ∀ x ∈ A.zip B, x.1.f1.length = x.2.f1.length

theorem sq_l1 (A : List S42) (n i c : Int) (hi : 0 ≤ i) (p q : List Int) (hp : p.length < 1000000000000000) (b0 b1 b2 b3 b4 b5 : Int) (l' : List S51) (B : List S42) (hib : i < B.length) (hq : (rd_T42 B i).f1 = q) (x0 x1 x2 x3 : Int) (R : Int → Int × Int × Int)
    (hout : ∀ s, Ev (fun k => metrics_SquaredError.l0 k s (wrap64 (c + (p.length : Int))) A n (wrap64 (i + 1)) b0 b1 b2 b3 b4 b5 l' B) (R s)) :
    ∀ post postq pre preq s, p = pre ++ post → q = preq ++ postq → pre.length = preq.length → post.length = postq.length →
      Ev (fun k => metrics_SquaredError.l1 k s c i A n i p (p.length : Int) (pre.length : Int) b0 b1 b2 b3 b4 b5 l' B x0 x1 x2 x3 p) (R ((post.zip postq).foldl sqStep s)) := by
  intro post
  induction post with
  | nil =>
    intro postq pre preq s h h' hl hpq
    rw [List.append_nil] at h
    subst h
    refine Ev.step (fun k => by rw [metrics_SquaredError.l1, if_neg (by omega)]) ?_
    exact hout s
  | cons x post ih =>
    intro postq pre preq s h h' hl hpq
    match postq, hpq with
    | y :: postq, hpq =>
      have hx : rd p (pre.length : Int) = x := by rw [h]; exact rd_at _ _ _
      have hy : rd (rd_T42 B i).f1 (pre.length : Int) = y := by rw [hq, h', hl]; exact rd_at _ _ _
      have hi1 : (pre.length : Int) < (p.length : Int) := by rw [h]; exact in_app _ _ _
      have hi2 : (pre.length : Int) < ((rd_T42 B i).f1.length : Int) := by rw [hq, h', hl]; exact in_app _ _ _
      have hs : wrap64 ((pre.length : Int) + 1) = ((pre ++ [x]).length : Int) := nx pre x (by omega)
      refine Ev.step (fun k => by rw [metrics_SquaredError.l1, if_pos hi1, if_pos (by omega), if_pos hi1, if_pos hi, if_pos hib, if_pos hi2, hx, hy, hs]) ?_
      exact ih postq (pre ++ [x]) (preq ++ [y]) (sqStep s (x, y)) (by simp [h]) (by simp [h']) (by simp [hl]) (by simpa using hpq)
theorem sq_l0 (A : List S42) (hA : Fin A) (b0 b1 b2 b3 b4 b5 : Int) (l' : List S51) (B : List S42) :
    ∀ postA postB preA preB s c, A = preA ++ postA → B = preB ++ postB → preA.length = preB.length → Alike postA postB →
      Ev (fun k => metrics_SquaredError.l0 k s c A (A.length : Int) (preA.length : Int) b0 b1 b2 b3 b4 b5 l' B) ((PP postA postB).foldl sqStep s, cnt postA c, 0) := by
  intro postA
  induction postA with
  | nil =>
    intro postB preA preB s c h h' hl hp
    rw [List.append_nil] at h
    subst h
    refine Ev.step (fun k => by rw [metrics_SquaredError.l0, if_neg (by omega)]) ?_
    exact Ev.const _
  | cons x postA ih =>
    intro postB preA preB s c h h' hl hp
    match postB, hp with
    | y :: postB, hp =>
      have hx : rd_T42 A (preA.length : Int) = x := by rw [h]; exact rdT_at _ _ _
      have hy : rd_T42 B (preA.length : Int) = y := by rw [h', hl]; exact rdT_at _ _ _
      have hi : (preA.length : Int) < (A.length : Int) := by rw [h]; exact in_app _ _ _
      have hj : (preA.length : Int) < (B.length : Int) := by rw [h', hl]; exact in_app _ _ _
      have hs : wrap64 ((preA.length : Int) + 1) = ((preA ++ [x]).length : Int) := nx preA x (by have := hA.1; omega)
      have hxy : x.f1.length = y.f1.length := hp.2 (x, y) (by simp)
      refine Ev.step (fun k => by rw [metrics_SquaredError.l0, if_pos hi, if_pos (by omega), if_pos hi, hx]) ?_
      have h1 := sq_l1 A (A.length : Int) (preA.length : Int) c (by omega) x.f1 y.f1 (hA.2 x (by rw [h]; simp)) b0 b1 b2 b3 b4 b5 l' B hj (by rw [hy]) x.f0.f0 x.f0.f1 x.f0.f2 x.f0.f3
        (fun s => ((PP postA postB).foldl sqStep s, cnt postA (wrap64 (c + (x.f1.length : Int))), 0))
        (fun s => by rw [hs]; exact ih postB (preA ++ [x]) (preB ++ [y]) s _ (by simp [h]) (by simp [h']) (by simp [hl]) ⟨by simpa using hp.1, fun z hz => hp.2 z (by simp [hz])⟩)
        x.f1 y.f1 [] [] s rfl rfl rfl hxy
      have e : (PP (x :: postA) (y :: postB)).foldl sqStep s = (PP postA postB).foldl sqStep ((x.f1.zip y.f1).foldl sqStep s) := by
        unfold PP
        simp only [List.zip_cons_cons, List.flatMap_cons, List.foldl_append]
      rw [e]
      exact h1
theorem mx_l1 (A : List S42) (n i : Int) (hi : 0 ≤ i) (p q : List Int) (hp : p.length < 1000000000000000) (b0 b1 b2 b3 b4 b5 : Int) (l' : List S51) (B : List S42) (hib : i < B.length) (hq : (rd_T42 B i).f1 = q) (R : Int → Int × Int)
    (hout : ∀ s, Ev (fun k => metrics_MaxError.l0 k s A n (wrap64 (i + 1)) b0 b1 b2 b3 b4 b5 l' B) (R s)) :
    ∀ post postq pre preq s, p = pre ++ post → q = preq ++ postq → pre.length = preq.length → post.length = postq.length →
      Ev (fun k => metrics_MaxError.l1 k s i A n i p (p.length : Int) (pre.length : Int) b0 b1 b2 b3 b4 b5 l' B) (R ((post.zip postq).foldl mxStep s)) := by
  intro post
  induction post with
  | nil =>
    intro postq pre preq s h h' hl hpq
    rw [List.append_nil] at h
    subst h
    refine Ev.step (fun k => by rw [metrics_MaxError.l1, if_neg (by omega)]) ?_
    exact hout s
  | cons x post ih =>
    intro postq pre preq s h h' hl hpq
    match postq, hpq with
    | y :: postq, hpq =>
      have hx : rd p (pre.length : Int) = x := by rw [h]; exact rd_at _ _ _
      have hy : rd (rd_T42 B i).f1 (pre.length : Int) = y := by rw [hq, h', hl]; exact rd_at _ _ _
      have hi1 : (pre.length : Int) < (p.length : Int) := by rw [h]; exact in_app _ _ _
      have hi2 : (pre.length : Int) < ((rd_T42 B i).f1.length : Int) := by rw [hq, h', hl]; exact in_app _ _ _
      have hs : wrap64 ((pre.length : Int) + 1) = ((pre ++ [x]).length : Int) := nx pre x (by omega)
      refine Ev.step (fun k => by rw [metrics_MaxError.l1, if_pos hi1, if_pos (by omega), if_pos hi1, if_pos hi, if_pos hib, if_pos hi2, hx, hy, hs]) ?_
      exact ih postq (pre ++ [x]) (preq ++ [y]) (mxStep s (x, y)) (by simp [h]) (by simp [h']) (by simp [hl]) (by simpa using hpq)
theorem mx_l0 (A : List S42) (hA : Fin A) (b0 b1 b2 b3 b4 b5 : Int) (l' : List S51) (B : List S42) :
    ∀ postA postB preA preB s, A = preA ++ postA → B = preB ++ postB → preA.length = preB.length → Alike postA postB →
      Ev (fun k => metrics_MaxError.l0 k s A (A.length : Int) (preA.length : Int) b0 b1 b2 b3 b4 b5 l' B) ((PP postA postB).foldl mxStep s, 0) := by
  intro postA
  induction postA with
  | nil =>
    intro postB preA preB s h h' hl hp
    rw [List.append_nil] at h
    subst h
    refine Ev.step (fun k => by rw [metrics_MaxError.l0, if_neg (by omega)]) ?_
    exact Ev.const _
  | cons x postA ih =>
    intro postB preA preB s h h' hl hp
    match postB, hp with
    | y :: postB, hp =>
      have hx : rd_T42 A (preA.length : Int) = x := by rw [h]; exact rdT_at _ _ _
      have hy : rd_T42 B (preA.length : Int) = y := by rw [h', hl]; exact rdT_at _ _ _
      have hi : (preA.length : Int) < (A.length : Int) := by rw [h]; exact in_app _ _ _
      have hj : (preA.length : Int) < (B.length : Int) := by rw [h', hl]; exact in_app _ _ _
      have hs : wrap64 ((preA.length : Int) + 1) = ((preA ++ [x]).length : Int) := nx preA x (by have := hA.1; omega)
      have hxy : x.f1.length = y.f1.length := hp.2 (x, y) (by simp)
      refine Ev.step (fun k => by rw [metrics_MaxError.l0, if_pos hi, if_pos (by omega), if_pos hi, hx]) ?_
      have h1 := mx_l1 A (A.length : Int) (preA.length : Int) (by omega) x.f1 y.f1 (hA.2 x (by rw [h]; simp)) b0 b1 b2 b3 b4 b5 l' B hj (by rw [hy])
        (fun s => ((PP postA postB).foldl mxStep s, 0))
        (fun s => by rw [hs]; exact ih postB (preA ++ [x]) (preB ++ [y]) s (by simp [h]) (by simp [h']) (by simp [hl]) ⟨by simpa using hp.1, fun z hz => hp.2 z (by simp [hz])⟩)
        x.f1 y.f1 [] [] s rfl rfl rfl hxy
      have e : (PP (x :: postA) (y :: postB)).foldl mxStep s = (PP postA postB).foldl mxStep ((x.f1.zip y.f1).foldl mxStep s) := by
        unfold PP
        simp only [List.zip_cons_cons, List.flatMap_cons, List.foldl_append]
      rw [e]
      exact h1
theorem chk_ok {A B : List S42} (h : chk A B = 0) : A.length = B.length ∧ 1 ≤ A.length ∧ A.length ≤ 4 ∧ (∀ x ∈ A.zip B, V x.1 ∧ V x.2 ∧ SR x.1 x.2 = true) ∧ within A = true ∧ within B = true := by
  unfold chk at h
  split at h
  · rename_i h1
    split at h
    · rename_i h2
      split at h
      · rename_i h3
        split at h
        · rename_i h4
          refine ⟨h1.1, h1.2.1, h1.2.2, fun x hx => ?_, h3, h4⟩
          have := List.all_eq_true.mp h2 x hx
          simpa [POk] using this
        · simp at h
      · simp at h
    · simp at h
  · simp at h
theorem chk_alike {A B : List S42} (h : chk A B = 0) : Alike A B :=
  ⟨(chk_ok h).1, fun x hx => by obtain ⟨h1, h2, h3⟩ := (chk_ok h).2.2.2.1 x hx; exact len_same h1 h2 h3⟩
/-- What SquaredError and MaxError return. -/
def SQ (A B : List S42) : Int × Int × Int := if chk A B = 0 then ((PP A B).foldl sqStep 0, cnt A 0, 0) else (0, 0, chk A B)
def MX (A B : List S42) : Int × Int := if chk A B = 0 then ((PP A B).foldl mxStep 0, 0) else (0, chk A B)
theorem sq_ev (a0 a1 a2 a3 a4 a5 : Int) (l : List S51) (A : List S42) (hA : Fin A) (b0 b1 b2 b3 b4 b5 : Int) (l' : List S51) (B : List S42) (hB : Fin B) :
    Ev (fun k => metrics_SquaredError.f k a0 a1 a2 a3 a4 a5 l A b0 b1 b2 b3 b4 b5 l' B) (SQ A B) := by
  unfold SQ
  refine Ev.bind (check_ev _ _ _ _ _ _ _ _ hA _ _ _ _ _ _ _ _ hB) ?_
  by_cases h : chk A B = 0
  · rw [if_pos h]
    refine Ev.eq (fun k => by rw [if_pos h]) ?_
    exact sq_l0 A hA _ _ _ _ _ _ _ B A B [] [] 0 0 rfl rfl rfl (chk_alike h)
  · rw [if_neg h]
    refine Ev.eq (fun k => by rw [if_neg h]) ?_
    exact Ev.const _
theorem mx_ev (a0 a1 a2 a3 a4 a5 : Int) (l : List S51) (A : List S42) (hA : Fin A) (b0 b1 b2 b3 b4 b5 : Int) (l' : List S51) (B : List S42) (hB : Fin B) :
    Ev (fun k => metrics_MaxError.f k a0 a1 a2 a3 a4 a5 l A b0 b1 b2 b3 b4 b5 l' B) (MX A B) := by
  unfold MX
  refine Ev.bind (check_ev _ _ _ _ _ _ _ _ hA _ _ _ _ _ _ _ _ hB) ?_
  by_cases h : chk A B = 0
  · rw [if_pos h]
    refine Ev.eq (fun k => by rw [if_pos h]) ?_
    exact mx_l0 A hA _ _ _ _ _ _ _ B A B [] [] 0 rfl rfl rfl (chk_alike h)
  · rw [if_neg h]
    refine Ev.eq (fun k => by rw [if_neg h]) ?_
    exact Ev.const _
/-- What Closer returns. -/
def CL (A B C : List S42) : Int × Int :=
  if (SQ A B).2.2 = 0 then (if (SQ A C).2.2 = 0 then (if (SQ A B).1 < (SQ A C).1 then (-1, 0) else if (SQ A B).1 > (SQ A C).1 then (1, 0) else (0, 0)) else (0, (SQ A C).2.2)) else (0, (SQ A B).2.2)
theorem closer_ev (a0 a1 a2 a3 a4 a5 : Int) (l : List S51) (A : List S42) (hA : Fin A) (b0 b1 b2 b3 b4 b5 : Int) (l' : List S51) (B : List S42) (hB : Fin B) (c0 c1 c2 c3 c4 c5 : Int) (l'' : List S51) (C : List S42) (hC : Fin C) :
    Ev (fun k => metrics_Closer.f k a0 a1 a2 a3 a4 a5 l A b0 b1 b2 b3 b4 b5 l' B c0 c1 c2 c3 c4 c5 l'' C) (CL A B C) := by
  unfold CL
  refine Ev.bind (sq_ev _ _ _ _ _ _ _ _ hA _ _ _ _ _ _ _ _ hB) ?_
  by_cases h : (SQ A B).2.2 = 0
  · rw [if_pos h]
    refine Ev.eq (fun k => by rw [if_pos h]) ?_
    refine Ev.bind (sq_ev _ _ _ _ _ _ _ _ hA _ _ _ _ _ _ _ _ hC) ?_
    by_cases h2 : (SQ A C).2.2 = 0
    · rw [if_pos h2, if_pos h2]
      split
      · exact Ev.const _
      · split <;> exact Ev.const _
    · rw [if_neg h2, if_neg h2]
      exact Ev.const _
  · rw [if_neg h]
    refine Ev.eq (fun k => by rw [if_neg h]) ?_
    exact Ev.const _

/-! ### Equal -/
def EQp (x : S42 × S42) : Bool := SR x.1 x.2 && decide (x.1.f1 = x.2.f1)
def EQ (A B : List S42) : Bool := decide (A.length = B.length) && (A.zip B).all EQp
theorem eq_l1 (A : List S42) (n i : Int) (p q : List Int) (hp : p.length < 1000000000000000) (b0 b1 b2 b3 b4 b5 : Int) (l' : List S51) (B : List S42) (y0 y1 y2 y3 : Int) (R : Bool)
    (hout : Ev (fun k => metrics_Equal.l0 k true A n (wrap64 (i + 1)) b0 b1 b2 b3 b4 b5 l' B) R) :
    ∀ post postq pre preq, p = pre ++ post → q = preq ++ postq → pre.length = preq.length → post.length = postq.length →
      Ev (fun k => metrics_Equal.l1 k true A n i p (p.length : Int) (pre.length : Int) b0 b1 b2 b3 b4 b5 l' B y0 y1 y2 y3 q) (decide (post = postq) && R) := by
  intro post
  induction post with
  | nil =>
    intro postq pre preq h h' hl hpq
    rw [List.append_nil] at h
    subst h
    have : postq = [] := by cases postq with
      | nil => rfl
      | cons y t => simp at hpq
    subst this
    refine Ev.step (fun k => by rw [metrics_Equal.l1, if_neg (by omega)]) ?_
    simpa using hout
  | cons x post ih =>
    intro postq pre preq h h' hl hpq
    match postq, hpq with
    | y :: postq, hpq =>
      have hx : rd p (pre.length : Int) = x := by rw [h]; exact rd_at _ _ _
      have hy : rd q (pre.length : Int) = y := by rw [h', hl]; exact rd_at _ _ _
      have hi1 : (pre.length : Int) < (p.length : Int) := by rw [h]; exact in_app _ _ _
      have hi2 : (pre.length : Int) < (q.length : Int) := by rw [h', hl]; exact in_app _ _ _
      have hs : wrap64 ((pre.length : Int) + 1) = ((pre ++ [x]).length : Int) := nx pre x (by omega)
      by_cases e : y = x
      · refine Ev.step (fun k => by rw [metrics_Equal.l1, if_pos hi1, if_pos (by omega), if_pos hi1, if_pos hi2, hx, hy, if_pos e, hs]) ?_
        have h1 := ih postq (pre ++ [x]) (preq ++ [y]) (by simp [h]) (by simp [h']) (by simp [hl]) (by simpa using hpq)
        have h2 : decide (x :: post = y :: postq) = decide (post = postq) := by rw [decide_eq_decide, e]; simp
        rw [h2]
        exact h1
      · refine Ev.step (fun k => by rw [metrics_Equal.l1, if_pos hi1, if_pos (by omega), if_pos hi1, if_pos hi2, hx, hy, if_neg e]) ?_
        have h2 : decide (x :: post = y :: postq) = false := by rw [decide_eq_false_iff_not]; intro h3; injection h3 with h4; exact e h4.symm
        rw [h2]
        exact Ev.const _
theorem eq_l0 (A : List S42) (hA : Fin A) (b0 b1 b2 b3 b4 b5 : Int) (l' : List S51) (B : List S42) :
    ∀ postA postB preA preB, A = preA ++ postA → B = preB ++ postB → preA.length = preB.length → postA.length = postB.length →
      Ev (fun k => metrics_Equal.l0 k true A (A.length : Int) (preA.length : Int) b0 b1 b2 b3 b4 b5 l' B) ((postA.zip postB).all EQp) := by
  intro postA
  induction postA with
  | nil =>
    intro postB preA preB h h' hl hp
    rw [List.append_nil] at h
    subst h
    refine Ev.step (fun k => by rw [metrics_Equal.l0, if_neg (by omega)]) ?_
    exact Ev.const _
  | cons x postA ih =>
    intro postB preA preB h h' hl hp
    match postB, hp with
    | y :: postB, hp =>
      have hx : rd_T42 A (preA.length : Int) = x := by rw [h]; exact rdT_at _ _ _
      have hy : rd_T42 B (preA.length : Int) = y := by rw [h', hl]; exact rdT_at _ _ _
      have hi : (preA.length : Int) < (A.length : Int) := by rw [h]; exact in_app _ _ _
      have hj : (preA.length : Int) < (B.length : Int) := by rw [h', hl]; exact in_app _ _ _
      have hs : wrap64 ((preA.length : Int) + 1) = ((preA ++ [x]).length : Int) := nx preA x (by have := hA.1; omega)
      have hz : ((x :: postA).zip (y :: postB)).all EQp = (EQp (x, y) && (postA.zip postB).all EQp) := rfl
      rw [hz]
      by_cases h1 : SR x y = true
      · by_cases h2 : x.f1.length = y.f1.length
        · refine Ev.step (fun k => by rw [metrics_Equal.l0, if_pos hi, if_pos (by omega), if_pos hi, if_pos hj, hx, hy, SR_not, h1, if_neg (by decide)]) ?_
          refine Ev.step (fun k => by rw [metrics_Equal.j1, if_neg (by simp [h2])]) ?_
          have h3 := eq_l1 A (A.length : Int) (preA.length : Int) x.f1 y.f1 (hA.2 x (by rw [h]; simp)) b0 b1 b2 b3 b4 b5 l' B y.f0.f0 y.f0.f1 y.f0.f2 y.f0.f3 ((postA.zip postB).all EQp)
            (by rw [hs]; exact ih postB (preA ++ [x]) (preB ++ [y]) (by simp [h]) (by simp [h']) (by simp [hl]) (by simpa using hp)) x.f1 y.f1 [] [] rfl rfl rfl h2
          have h4 : EQp (x, y) = decide (x.f1 = y.f1) := by unfold EQp; simp [h1]
          rw [h4]
          exact h3
        · refine Ev.step (fun k => by rw [metrics_Equal.l0, if_pos hi, if_pos (by omega), if_pos hi, if_pos hj, hx, hy, SR_not, h1, if_neg (by decide)]) ?_
          refine Ev.step (fun k => by rw [metrics_Equal.j1, if_pos (by simp only [bne_iff_ne, ne_eq]; omega)]) ?_
          have h4 : EQp (x, y) = false := by
            unfold EQp
            simp only [h1, Bool.true_and, decide_eq_false_iff_not]
            exact fun e => h2 (by rw [e])
          rw [h4]
          exact Ev.const _
      · refine Ev.step (fun k => by rw [metrics_Equal.l0, if_pos hi, if_pos (by omega), if_pos hi, if_pos hj, hx, hy, SR_not, Bool.eq_false_iff.mpr h1, if_pos (by decide)]) ?_
        refine Ev.step (fun k => by rw [metrics_Equal.j1, if_pos rfl]) ?_
        have h4 : EQp (x, y) = false := by unfold EQp; simp [h1]
        rw [h4]
        exact Ev.const _
theorem equal_ev (a0 a1 a2 a3 a4 a5 : Int) (l : List S51) (A : List S42) (hA : Fin A) (b0 b1 b2 b3 b4 b5 : Int) (l' : List S51) (B : List S42) :
    Ev (fun k => metrics_Equal.f k a0 a1 a2 a3 a4 a5 l A b0 b1 b2 b3 b4 b5 l' B) (EQ A B) := by
  unfold EQ
  by_cases h : A.length = B.length
  · rw [decide_eq_true h, Bool.true_and]
    refine Ev.eq (fun k => by rw [metrics_Equal.f, if_pos (by omega), show ((A.length : Int) == (B.length : Int)) = true by rw [beq_iff_eq]; omega]) ?_
    exact eq_l0 A hA _ _ _ _ _ _ _ B A B [] [] rfl rfl rfl h
  · rw [decide_eq_false h, Bool.false_and]
    refine Ev.eq (fun k => by rw [metrics_Equal.f, if_neg (by omega)]) ?_
    exact Ev.const _
end Go.Proofs.Ytfihdlekeainpaa.Pure
