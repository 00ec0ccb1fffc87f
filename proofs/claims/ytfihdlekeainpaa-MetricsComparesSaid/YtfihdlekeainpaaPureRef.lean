/- What the specification's errors and SquaredError compute: the same as the program's. -/
import Derived.Test.YtfihdlekeainpaaPureFew
import Derived.Test.YtfihdlekeainpaaQ29
namespace Go.Proofs.Ytfihdlekeainpaa.Pure
open Go.RowKit Go.Proofs.Ytfihdlekeainpaa.Q Go.Proofs.YtfihdlekeainpaaW.PrintWords
set_option linter.unusedVariables false

theorem rvalid_eq (a b c d : Int) : waveletref01_Valid.f a b c d = some (decide (Valid a b c d)) := valid_eq a b c d
theorem rarea_eq (a b c d : Int) : waveletref01_Area.f a b c d = some (Area a b c d) := area_eq a b c d
theorem rpv (p : S42) : waveletref02_Valid.f p.f0.f0 p.f0.f1 p.f0.f2 p.f0.f3 p.f1 = some (decide (V p)) := by
  unfold waveletref02_Valid.f
  rw [rvalid_eq, rarea_eq]
  simp only [Option.bind_some, decide_eq_true_eq]
  by_cases h : Valid p.f0.f0 p.f0.f1 p.f0.f2 p.f0.f3
  · rw [if_pos h]
    by_cases h2 : Area p.f0.f0 p.f0.f1 p.f0.f2 p.f0.f3 ≤ 1048576
    · rw [if_pos h2]
      congr 1
      rw [Bool.eq_iff_iff]
      simp only [beq_iff_eq, decide_eq_true_eq]
      exact ⟨fun e => ⟨h, h2, e⟩, fun e => e.2.2⟩
    · rw [if_neg h2]
      congr 1
      symm
      rw [decide_eq_false_iff_not]
      exact fun e => h2 e.2.1
  · rw [if_neg h]
    congr 1
    symm
    rw [decide_eq_false_iff_not]
    exact fun e => h e.1
theorem bounded_l0 (a b c d : Int) (p : List Int) (hp : p.length < 1000000000000000) : ∀ post pre, p = pre ++ post → Ev (fun k => waveletref02_Bounded.l0 k 65536 (pre.length : Int) a b c d p) (post.all InR) := by
  intro post
  induction post with
  | nil =>
    intro pre h
    rw [List.append_nil] at h
    subst h
    refine Ev.step (fun k => by rw [waveletref02_Bounded.l0, if_neg (by omega)]) ?_
    exact Ev.const _
  | cons x post ih =>
    intro pre h
    have hx : rd p (pre.length : Int) = x := by rw [h]; exact rd_at _ _ _
    have hl : (pre.length : Int) < (p.length : Int) := by rw [h]; exact in_app _ _ _
    have hs : wrap64 ((pre.length : Int) + 1) = ((pre ++ [x]).length : Int) := nx pre x (by omega)
    have hw : wrap64 (-65536) = -65536 := by unfold wrap64; omega
    have hc : (x :: post).all InR = (InR x && post.all InR) := rfl
    rw [hc]
    by_cases h2 : x < -65536
    · refine Ev.step (fun k => by rw [waveletref02_Bounded.l0, if_pos hl, if_pos (by omega), hx, hw, if_pos h2]) ?_
      have : InR x = false := by unfold InR; simp; omega
      rw [this]
      exact Ev.const false
    by_cases h1 : x > 65536
    · refine Ev.step (fun k => by rw [waveletref02_Bounded.l0, if_pos hl, if_pos (by omega), hx, hw, if_neg h2, if_pos h1]) ?_
      have : InR x = false := by unfold InR; simp; omega
      rw [this]
      exact Ev.const false
    refine Ev.step (fun k => by rw [waveletref02_Bounded.l0, if_pos hl, if_pos (by omega), hx, hw, if_neg h2, if_neg h1, hs]) ?_
    have : InR x = true := by unfold InR; simp; omega
    rw [this, Bool.true_and]
    exact ih (pre ++ [x]) (by simp [h])
theorem bounded_ev (p : S42) (hp : p.f1.length < 1000000000000000) : Ev (fun k => waveletref02_Bounded.f k p.f0.f0 p.f0.f1 p.f0.f2 p.f0.f3 p.f1 65536) (p.f1.all InR) :=
  bounded_l0 _ _ _ _ p.f1 hp p.f1 [] rfl
def BB (x : S42 × S42) : Bool := x.1.f1.all InR && x.2.f1.all InR
theorem bb_within : ∀ (A B : List S42), A.length = B.length → (A.zip B).all BB = (within A && within B)
  | [], [], _ => rfl
  | [], y :: B, h => by simp at h
  | x :: A, [], h => by simp at h
  | x :: A, y :: B, h => by
    have ih := bb_within A B (by simpa using h)
    show (BB (x, y) && (A.zip B).all BB) = ((x.f1.all InR && within A) && (y.f1.all InR && within B))
    rw [ih]
    show ((x.f1.all InR && y.f1.all InR) && _) = _
    cases x.f1.all InR <;> cases y.f1.all InR <;> cases within A <;> rfl
theorem err_l1 (a0 a1 a2 a3 a4 a5 : Int) (l : List S51) (A : List S42) (hA : Fin A) (b0 b1 b2 b3 b4 b5 : Int) (l' : List S51) (B : List S42) (hB : Fin B) :
    ∀ postA postB preA preB, A = preA ++ postA → B = preB ++ postB → preA.length = preB.length → postA.length = postB.length →
      Ev (fun k => waveletref50_errors.l1 k (preA.length : Int) a0 a1 a2 a3 a4 a5 l A b0 b1 b2 b3 b4 b5 l' B) (if (postA.zip postB).all BB = true then 0 else 2) := by
  intro postA
  induction postA with
  | nil =>
    intro postB preA preB h h' hl hp
    rw [List.append_nil] at h
    subst h
    refine Ev.step (fun k => by rw [waveletref50_errors.l1, if_neg (by omega)]) ?_
    exact Ev.const _
  | cons x postA ih =>
    intro postB preA preB h h' hl hp
    match postB, hp with
    | y :: postB, hp =>
      have hx : rd_T42 A (preA.length : Int) = x := by rw [h]; exact rdT_at _ _ _
      have hy : rd_T42 B (preA.length : Int) = y := by rw [h', hl]; exact rdT_at _ _ _
      have hi : (preA.length : Int) < (A.length : Int) := by rw [h]; exact in_app _ _ _
      have hj : (preA.length : Int) < (B.length : Int) := by rw [h', hl]; exact in_app _ _ _
      have hs : wrap64 ((preA.length : Int) + 1) = ((preA ++ [x]).length : Int) := nx preA x (by have := hA.1; omega)
      have hz : ((x :: postA).zip (y :: postB)).all BB = (BB (x, y) && (postA.zip postB).all BB) := rfl
      rw [hz]
      refine Ev.step (fun k => by rw [waveletref50_errors.l1, if_pos hi, if_pos (by omega), hx]) (Ev.bind (bounded_ev x (hA.2 x (by rw [h]; simp))) ?_)
      by_cases h1 : x.f1.all InR = true
      · refine Ev.eq (fun k => by rw [if_pos h1, if_pos hj, hy]) (Ev.bind (bounded_ev y (hB.2 y (by rw [h']; simp))) ?_)
        by_cases h2 : y.f1.all InR = true
        · refine Ev.eq (fun k => by rw [if_pos h2, hs]) ?_
          rw [show BB (x, y) = true by unfold BB; rw [h1, h2]; rfl, Bool.true_and]
          exact ih postB (preA ++ [x]) (preB ++ [y]) (by simp [h]) (by simp [h']) (by simp [hl]) (by simpa using hp)
        · refine Ev.eq (fun k => by rw [if_neg h2]) ?_
          rw [show BB (x, y) = false by unfold BB; rw [Bool.eq_false_iff.mpr h2, Bool.and_false], Bool.false_and]
          exact Ev.const _
      · refine Ev.eq (fun k => by rw [if_neg h1]) ?_
        rw [show BB (x, y) = false by unfold BB; rw [Bool.eq_false_iff.mpr h1, Bool.false_and], Bool.false_and]
        exact Ev.const _
theorem err_l0 (a0 a1 a2 a3 a4 a5 : Int) (l : List S51) (A : List S42) (hA : Fin A) (b0 b1 b2 b3 b4 b5 : Int) (l' : List S51) (B : List S42) (hB : Fin B) (R : Int)
    (hout : Ev (fun k => waveletref50_errors.l1 k 0 a0 a1 a2 a3 a4 a5 l A b0 b1 b2 b3 b4 b5 l' B) R) :
    ∀ postA postB preA preB, A = preA ++ postA → B = preB ++ postB → preA.length = preB.length → postA.length = postB.length →
      Ev (fun k => waveletref50_errors.l0 k (preA.length : Int) a0 a1 a2 a3 a4 a5 l A b0 b1 b2 b3 b4 b5 l' B) (if (postA.zip postB).all POk = true then R else 1) := by
  intro postA
  induction postA with
  | nil =>
    intro postB preA preB h h' hl hp
    rw [List.append_nil] at h
    subst h
    refine Ev.step (fun k => by rw [waveletref50_errors.l0, if_neg (by omega)]) ?_
    exact hout
  | cons x postA ih =>
    intro postB preA preB h h' hl hp
    match postB, hp with
    | y :: postB, hp =>
      have hx : rd_T42 A (preA.length : Int) = x := by rw [h]; exact rdT_at _ _ _
      have hy : rd_T42 B (preA.length : Int) = y := by rw [h', hl]; exact rdT_at _ _ _
      have hi : (preA.length : Int) < (A.length : Int) := by rw [h]; exact in_app _ _ _
      have hj : (preA.length : Int) < (B.length : Int) := by rw [h', hl]; exact in_app _ _ _
      have hs : wrap64 ((preA.length : Int) + 1) = ((preA ++ [x]).length : Int) := nx preA x (by have := hA.1; omega)
      have hz : ((x :: postA).zip (y :: postB)).all POk = (POk (x, y) && (postA.zip postB).all POk) := rfl
      rw [hz]
      by_cases h1 : V x
      · by_cases h2 : V y
        · by_cases h3 : SR x y = true
          · have hok : POk (x, y) = true := by unfold POk; simp [h1, h2, h3]
            refine Ev.step (fun k => by rw [waveletref50_errors.l0, if_pos hi, if_pos (by omega), hx, rpv, Option.bind_some, if_pos (decide_eq_true h1), if_pos hj, hy, rpv, Option.bind_some, if_pos (decide_eq_true h2), SR_not, h3, if_neg (by decide), hs]) ?_
            have h4 := ih postB (preA ++ [x]) (preB ++ [y]) (by simp [h]) (by simp [h']) (by simp [hl]) (by simpa using hp)
            rw [hok, Bool.true_and]
            exact h4
          · have hok : POk (x, y) = false := by unfold POk; simp [h3]
            refine Ev.step (fun k => by rw [waveletref50_errors.l0, if_pos hi, if_pos (by omega), hx, rpv, Option.bind_some, if_pos (decide_eq_true h1), if_pos hj, hy, rpv, Option.bind_some, if_pos (decide_eq_true h2), SR_not, Bool.eq_false_iff.mpr h3, if_pos (by decide)]) ?_
            (rw [hok, Bool.false_and]; exact Ev.const 1)
        · have hok : POk (x, y) = false := by unfold POk; simp [h2]
          refine Ev.step (fun k => by rw [waveletref50_errors.l0, if_pos hi, if_pos (by omega), hx, rpv, Option.bind_some, if_pos (decide_eq_true h1), if_pos hj, hy, rpv, Option.bind_some, if_neg (by simpa using h2)]) ?_
          (rw [hok, Bool.false_and]; exact Ev.const 1)
      · have hok : POk (x, y) = false := by unfold POk; simp [h1]
        refine Ev.step (fun k => by rw [waveletref50_errors.l0, if_pos hi, if_pos (by omega), hx, rpv, Option.bind_some, if_neg (by simpa using h1)]) ?_
        (rw [hok, Bool.false_and]; exact Ev.const 1)
theorem err_ev (a0 a1 a2 a3 a4 a5 : Int) (l : List S51) (A : List S42) (hA : Fin A) (b0 b1 b2 b3 b4 b5 : Int) (l' : List S51) (B : List S42) (hB : Fin B) :
    Ev (fun k => waveletref50_errors.f k a0 a1 a2 a3 a4 a5 l A b0 b1 b2 b3 b4 b5 l' B) (chk A B) := by
  unfold chk
  by_cases h1 : A.length = B.length
  · by_cases h2 : A.length < 1
    · rw [if_neg (by omega)]
      refine Ev.eq (fun k => by rw [waveletref50_errors.f, if_pos (by omega), if_pos (by omega)]) ?_
      refine Ev.step (fun k => by rw [waveletref50_errors.j0, if_pos rfl]) ?_
      exact Ev.const _
    · by_cases h3 : A.length ≤ 4
      · rw [if_pos ⟨h1, by omega, h3⟩]
        refine Ev.eq (fun k => by rw [waveletref50_errors.f, if_pos (by omega), if_neg (by omega), decide_eq_false (by omega)]) ?_
        refine Ev.step (fun k => by rw [waveletref50_errors.j0, if_neg (by decide)]) ?_
        have h4 := err_l1 a0 a1 a2 a3 a4 a5 l A hA b0 b1 b2 b3 b4 b5 l' B hB A B [] [] rfl rfl rfl h1
        have h5 := err_l0 a0 a1 a2 a3 a4 a5 l A hA b0 b1 b2 b3 b4 b5 l' B hB _ h4 A B [] [] rfl rfl rfl h1
        rw [bb_within A B h1] at h5
        have e : (if (within A && within B) = true then (0 : Int) else 2) = (if within A = true then (if within B = true then 0 else 2) else 2) := by
          cases within A <;> cases within B <;> rfl
        rw [e] at h5
        exact h5
      · rw [if_neg (by omega)]
        refine Ev.eq (fun k => by rw [waveletref50_errors.f, if_pos (by omega), if_neg (by omega), decide_eq_true (by omega)]) ?_
        refine Ev.step (fun k => by rw [waveletref50_errors.j0, if_pos rfl]) ?_
        exact Ev.const _
  · rw [if_neg (fun h => h1 h.1)]
    refine Ev.eq (fun k => by rw [waveletref50_errors.f, if_neg (by omega)]) ?_
    refine Ev.step (fun k => by rw [waveletref50_errors.j0, if_pos rfl]) ?_
    exact Ev.const _

theorem rsq_l1 (a0 a1 a2 a3 a4 a5 : Int) (l : List S51) (A : List S42) (b0 b1 b2 b3 b4 b5 : Int) (l' : List S51) (B : List S42) (i : Int) (hi : 0 ≤ i) (hia : i < A.length) (hib : i < B.length) (p q : List Int) (hq1 : (rd_T42 A i).f1 = p) (hq : (rd_T42 B i).f1 = q) (hp : p.length < 1000000000000000) (R : Int → Int → Int × Int × Int)
    (hout : ∀ s c, Ev (fun k => waveletref50_SquaredError.l0 k s c (wrap64 (i + 1)) a0 a1 a2 a3 a4 a5 l A b0 b1 b2 b3 b4 b5 l' B) (R s c)) :
    ∀ post postq pre preq s c, p = pre ++ post → q = preq ++ postq → pre.length = preq.length → post.length = postq.length →
      Ev (fun k => waveletref50_SquaredError.l1 k s c i (pre.length : Int) a0 a1 a2 a3 a4 a5 l A b0 b1 b2 b3 b4 b5 l' B) (R ((post.zip postq).foldl sqStep s) ((post.zip postq).foldl (fun c _ => wrap64 (c + 1)) c)) := by
  intro post
  induction post with
  | nil =>
    intro postq pre preq s c h h' hl hpq
    rw [List.append_nil] at h
    refine Ev.step (fun k => by rw [waveletref50_SquaredError.l1, if_pos hi, if_pos hia, if_neg (by rw [hq1, h]; omega)]) ?_
    exact hout s c
  | cons x post ih =>
    intro postq pre preq s c h h' hl hpq
    match postq, hpq with
    | y :: postq, hpq =>
      have hx : rd (rd_T42 A i).f1 (pre.length : Int) = x := by rw [hq1, h]; exact rd_at _ _ _
      have hy : rd (rd_T42 B i).f1 (pre.length : Int) = y := by rw [hq, h', hl]; exact rd_at _ _ _
      have hi1 : (pre.length : Int) < ((rd_T42 A i).f1.length : Int) := by rw [hq1, h]; exact in_app _ _ _
      have hi2 : (pre.length : Int) < ((rd_T42 B i).f1.length : Int) := by rw [hq, h', hl]; exact in_app _ _ _
      have hs : wrap64 ((pre.length : Int) + 1) = ((pre ++ [x]).length : Int) := nx pre x (by rw [hq1] at hi1; omega)
      refine Ev.step (fun k => by rw [waveletref50_SquaredError.l1, if_pos hi, if_pos hia, if_pos hi1, if_pos (by omega), if_pos hib, if_pos hi2, hx, hy, hs]) ?_
      exact ih postq (pre ++ [x]) (preq ++ [y]) (sqStep s (x, y)) (wrap64 (c + 1)) (by simp [h]) (by simp [h']) (by simp [hl]) (by simpa using hpq)
theorem rsq_l0 (a0 a1 a2 a3 a4 a5 : Int) (l : List S51) (A : List S42) (hA : Fin A) (b0 b1 b2 b3 b4 b5 : Int) (l' : List S51) (B : List S42) :
    ∀ postA postB preA preB s c, A = preA ++ postA → B = preB ++ postB → preA.length = preB.length → Alike postA postB →
      Ev (fun k => waveletref50_SquaredError.l0 k s c (preA.length : Int) a0 a1 a2 a3 a4 a5 l A b0 b1 b2 b3 b4 b5 l' B) ((PP postA postB).foldl sqStep s, (PP postA postB).foldl (fun c _ => wrap64 (c + 1)) c, 0) := by
  intro postA
  induction postA with
  | nil =>
    intro postB preA preB s c h h' hl hp
    rw [List.append_nil] at h
    subst h
    refine Ev.step (fun k => by rw [waveletref50_SquaredError.l0, if_neg (by omega)]) ?_
    exact Ev.const _
  | cons x postA ih =>
    intro postB preA preB s c h h' hl hp
    match postB, hp with
    | y :: postB, hp =>
      have hx : rd_T42 A (preA.length : Int) = x := by rw [h]; exact rdT_at _ _ _
      have hy : rd_T42 B (preA.length : Int) = y := by rw [h', hl]; exact rdT_at _ _ _
      have hi : (preA.length : Int) < (A.length : Int) := by rw [h]; exact in_app _ _ _
      have hj : (preA.length : Int) < (B.length : Int) := by rw [h', hl]; exact in_app _ _ _
      have hs : wrap64 ((preA.length : Int) + 1) = ((preA ++ [x]).length : Int) := nx preA x (by have := hA.1; omega)
      have hxy : x.f1.length = y.f1.length := hp.2 (x, y) (by simp)
      refine Ev.step (fun k => by rw [waveletref50_SquaredError.l0, if_pos hi]) ?_
      have h1 := rsq_l1 a0 a1 a2 a3 a4 a5 l A b0 b1 b2 b3 b4 b5 l' B (preA.length : Int) (by omega) hi hj x.f1 y.f1 (by rw [hx]) (by rw [hy]) (hA.2 x (by rw [h]; simp))
        (fun s c => ((PP postA postB).foldl sqStep s, (PP postA postB).foldl (fun c _ => wrap64 (c + 1)) c, 0))
        (fun s c => by rw [hs]; exact ih postB (preA ++ [x]) (preB ++ [y]) s c (by simp [h]) (by simp [h']) (by simp [hl]) ⟨by simpa using hp.1, fun z hz => hp.2 z (by simp [hz])⟩)
        x.f1 y.f1 [] [] s c rfl rfl rfl hxy
      have e : PP (x :: postA) (y :: postB) = x.f1.zip y.f1 ++ PP postA postB := rfl
      rw [e, List.foldl_append, List.foldl_append]
      exact h1
theorem count_exact : ∀ (P : List (Int × Int)) (c : Int), 0 ≤ c → c + (P.length : Int) < 4611686018427387904 → P.foldl (fun c _ => wrap64 (c + 1)) c = c + P.length
  | [], c, _, _ => by show c = c + 0; omega
  | d :: t, c, h0, h1 => by
    rw [List.length_cons] at h1
    have e : wrap64 (c + 1) = c + 1 := by unfold wrap64; omega
    show t.foldl (fun c _ => wrap64 (c + 1)) (wrap64 (c + 1)) = _
    rw [e, count_exact t (c + 1) (by omega) (by omega), List.length_cons]
    omega
theorem rsq_ev (a0 a1 a2 a3 a4 a5 : Int) (l : List S51) (A : List S42) (hA : Fin A) (fA : few A = true) (b0 b1 b2 b3 b4 b5 : Int) (l' : List S51) (B : List S42) (hB : Fin B) :
    Ev (fun k => waveletref50_SquaredError.f k a0 a1 a2 a3 a4 a5 l A b0 b1 b2 b3 b4 b5 l' B) (SQ A B) := by
  refine Ev.bind (err_ev _ _ _ _ _ _ _ _ hA _ _ _ _ _ _ _ _ hB) ?_
  by_cases h : chk A B = 0
  · refine Ev.eq (fun k => by rw [if_pos h]) ?_
    have h1 := rsq_l0 a0 a1 a2 a3 a4 a5 l A hA b0 b1 b2 b3 b4 b5 l' B A B [] [] 0 0 rfl rfl rfl (chk_alike h)
    obtain ⟨h2, h3, h4⟩ := sq_is hA fA h
    rw [count_exact _ 0 (Int.le_refl _) (by omega), sq_exact _ 0 h4 (Int.le_refl _) (by omega), Int.zero_add, Int.zero_add, ← h2] at h1
    exact h1
  · unfold SQ
    rw [if_neg h]
    refine Ev.eq (fun k => by rw [if_neg h]) ?_
    exact Ev.const _
end Go.Proofs.Ytfihdlekeainpaa.Pure
