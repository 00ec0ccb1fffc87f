/- MetricsRates: Rate returns what the specification returns, for headers with at most 20 components. -/
import Derived.Test.YtfihdlekeainpaaPureLib
import Derived.Test.YtfihdlekeainpaaQ49
namespace Go.Proofs.Ytfihdlekeainpaa.Pure
open Go.RowKit Go.Proofs.Ytfihdlekeainpaa.Q Go.Proofs.YtfihdlekeainpaaW.PrintWords
set_option linter.unusedVariables false
theorem empty_eq (a b c d : Int) : rect_Empty.f a b c d = some (decide (c ≤ a ∨ d ≤ b)) := by
  unfold rect_Empty.f
  repeat' split
  all_goals (congr 1; first | (rw [decide_eq_decide]; omega) | (symm; rw [decide_eq_true_iff]; omega))


def cdiv (a b : Int) : Int := if b < 1 then 0 else if Int.tmod a b > 0 then wrap64 (wrap64 (Int.tdiv a b) + 1) else wrap64 (Int.tdiv a b)
def fdiv (a b : Int) : Int := if b < 1 then 0 else if Int.tmod a b < 0 then wrap64 (wrap64 (Int.tdiv a b) - 1) else wrap64 (Int.tdiv a b)
theorem ceil_eq (a b : Int) : rect_CeilDiv.f a b = some (cdiv a b) := by
  unfold rect_CeilDiv.f cdiv
  by_cases h : b < 1
  · rw [if_pos h, if_pos h]
  · rw [if_neg h, if_neg (by omega), if_neg h]
    split <;> rfl
theorem floor_eq (a b : Int) : rect_FloorDiv.f a b = some (fdiv a b) := by
  unfold rect_FloorDiv.f fdiv
  by_cases h : b < 1
  · rw [if_pos h, if_pos h]
  · rw [if_neg h, if_neg (by omega), if_neg h]
    split <;> rfl


def Red (a b c d x y : Int) : Int × Int × Int × Int :=
  if Valid a b c d ∧ 1 ≤ x ∧ x ≤ 4096 ∧ 1 ≤ y ∧ y ≤ 4096 then (cdiv a x, cdiv b y, cdiv c x, cdiv d y) else (0, 0, 0, 0)
theorem reduce_eq (k : Nat) (a b c d x y : Int) : rect_Reduce.f (k + 1) a b c d x y = some (Red a b c d x y) := by
  unfold rect_Reduce.f Red
  rw [valid_eq]
  simp only [Option.bind_some, decide_eq_true_eq, rect_Reduce.j0, ceil_eq, if_true]
  by_cases h0 : Valid a b c d
  · rw [if_pos h0]
    by_cases h1 : x < 1
    · rw [if_pos h1, if_neg (by omega)]
    rw [if_neg h1]
    by_cases h2 : x > 4096
    · rw [if_pos h2, if_neg (by omega)]
    rw [if_neg h2]
    by_cases h3 : y < 1
    · rw [if_pos h3, if_neg (by omega)]
    rw [if_neg h3]
    by_cases h4 : y > 4096
    · rw [if_pos h4, if_neg (by omega)]
    rw [if_neg h4, if_pos ⟨h0, by omega, by omega, by omega, by omega⟩]
  · rw [if_neg h0, if_neg (fun h => h0 h.1)]
theorem cdiv_pos {a w : Int} (ha : 0 ≤ a) (h4 : a ≤ 4096) (hw : 1 ≤ w) : cdiv a w = (if a % w > 0 then a / w + 1 else a / w) ∧ 0 ≤ cdiv a w ∧ cdiv a w ≤ 4097 := by
  have h1 : Int.tdiv a w = a / w := Int.tdiv_eq_ediv_of_nonneg ha
  have h2 : Int.tmod a w = a % w := Int.tmod_eq_emod_of_nonneg ha
  have h3 : 0 ≤ a % w := Int.emod_nonneg _ (by omega)
  have h5 : 0 ≤ a / w := Int.ediv_nonneg ha (by omega)
  have h6 : a / w ≤ a := Int.ediv_le_self _ ha
  have e : cdiv a w = (if a % w > 0 then a / w + 1 else a / w) := by
    unfold cdiv
    rw [if_neg (by omega), h1, h2]
    split <;> (unfold wrap64; omega)
  refine ⟨e, ?_, ?_⟩ <;> (rw [e]; split <;> omega)

/-- CeilDiv is the least whose multiple reaches a. -/
theorem cdiv_le {a w : Int} (ha : 0 ≤ a) (hw : 1 ≤ w) (hb : a ≤ 4096) (x : Int) : cdiv a w ≤ x ↔ a ≤ x * w := by
  have c1 := cdiv_pos (a := a) (w := w) ha hb hw
  have e2 := Int.emod_add_mul_ediv a w
  have e3 := Int.emod_lt_of_pos a (show 0 < w by omega)
  have e4 := Int.emod_nonneg a (show w ≠ 0 by omega)
  have e5 : w * (a / w) = a / w * w := Int.mul_comm _ _
  rw [c1.1]
  constructor
  · intro h
    split at h
    · have := Int.mul_le_mul_of_nonneg_right h (show 0 ≤ w by omega)
      rw [Int.add_mul, Int.one_mul] at this
      omega
    · have := Int.mul_le_mul_of_nonneg_right h (show 0 ≤ w by omega)
      omega
  · intro h
    split
    · rename_i hr
      rcases Int.lt_or_le x (a / w + 1) with hx | hx
      · have := Int.mul_le_mul_of_nonneg_right (show x ≤ a / w by omega) (show 0 ≤ w by omega)
        omega
      · exact hx
    · rcases Int.lt_or_le x (a / w) with hx | hx
      · have := Int.mul_le_mul_of_nonneg_right (show x + 1 ≤ a / w by omega) (show 0 ≤ w by omega)
        rw [Int.add_mul, Int.one_mul] at this
        omega
      · exact hx

/-! ### Header and Rate -/
theorem red_ev (a b c d x y : Int) : Ev (fun k => rect_Reduce.f k a b c d x y) (Red a b c d x y) := Ev.step (fun k => by rw [reduce_eq]) (Ev.const _)
theorem rred_ev (a b c d x y : Int) : Ev (fun k => waveletref01_Reduce.f k a b c d x y) (Red a b c d x y) := by
  refine Ev.step (g' := fun k => some (Red a b c d x y)) (fun k => ?_) (Ev.const _)
  have h := reduce_eq k a b c d x y
  unfold rect_Reduce.f at h
  simp only [rect_Reduce.j0] at h
  unfold waveletref01_Reduce.f
  simp only [waveletref01_Reduce.j0]
  exact h
theorem rvalid_eq (a b c d : Int) : waveletref01_Valid.f a b c d = some (decide (Valid a b c d)) := valid_eq a b c d
theorem rempty_eq (a b c d : Int) : waveletref01_Empty.f a b c d = some (decide (c ≤ a ∨ d ≤ b)) := empty_eq a b c d
theorem rarea_eq (a b c d : Int) : waveletref01_Area.f a b c d = some (Area a b c d) := area_eq a b c d
def inn (x a b : Int) : Bool := decide (a ≤ x ∧ x ≤ b)
theorem rin_eq (x a b : Int) : waveletref23_in.f x a b = some (inn x a b) := by
  unfold waveletref23_in.f inn
  split <;> (congr 1; rw [Bool.eq_iff_iff]; simp only [decide_eq_true_eq, Bool.false_eq_true, false_iff]; omega)
theorem win_l0 (a b : Int) (l : List Int) (hl : l.length < 1000000000000000) : ∀ post pre, l = pre ++ post → Ev (fun k => params_within.l0 k a b l (l.length : Int) (pre.length : Int)) (post.all fun x => inn x a b) := by
  intro post
  induction post with
  | nil =>
    intro pre h
    rw [List.append_nil] at h
    subst h
    refine Ev.step (fun k => by rw [params_within.l0, if_neg (by omega)]) ?_
    exact Ev.const _
  | cons x post ih =>
    intro pre h
    have hx : rd l (pre.length : Int) = x := by rw [h]; exact rd_at _ _ _
    have hi : (pre.length : Int) < (l.length : Int) := by rw [h]; exact in_app _ _ _
    have hs : wrap64 ((pre.length : Int) + 1) = ((pre ++ [x]).length : Int) := nx pre x (by omega)
    have hc : ((x :: post).all fun x => inn x a b) = (inn x a b && post.all fun x => inn x a b) := rfl
    rw [hc]
    by_cases h1 : x < a
    · refine Ev.step (fun k => by rw [params_within.l0, if_pos hi, if_pos (by omega), if_pos hi, hx, if_pos h1]) ?_
      rw [show inn x a b = false by unfold inn; exact decide_eq_false (by omega)]
      exact Ev.const false
    by_cases h2 : x > b
    · refine Ev.step (fun k => by rw [params_within.l0, if_pos hi, if_pos (by omega), if_pos hi, hx, if_neg h1, if_pos h2]) ?_
      rw [show inn x a b = false by unfold inn; exact decide_eq_false (by omega)]
      exact Ev.const false
    refine Ev.step (fun k => by rw [params_within.l0, if_pos hi, if_pos (by omega), if_pos hi, hx, if_neg h1, if_neg h2, hs]) ?_
    rw [show inn x a b = true by unfold inn; exact decide_eq_true (by omega), Bool.true_and]
    exact ih (pre ++ [x]) (by simp [h])
theorem win_ev (a b : Int) (l : List Int) (hl : l.length < 1000000000000000) : Ev (fun k => params_within.f k a b l) (l.all fun x => inn x a b) := win_l0 a b l hl l [] rfl
/-- A component that the area's rectangle admits. -/
def cok (a b c d : Int) (p : S51) : Bool := inn p.f0 1 16 && (inn p.f2 1 4 && (inn p.f3 1 4 && !decide ((Red a b c d p.f2 p.f3).2.2.1 ≤ (Red a b c d p.f2 p.f3).1 ∨ (Red a b c d p.f2 p.f3).2.2.2 ≤ (Red a b c d p.f2 p.f3).2.1)))
def AR (r : Int × Int × Int × Int) : Int := Area r.1 r.2.1 r.2.2.1 r.2.2.2
def big (a b c d : Int) (p : S51) : Bool := decide (AR (Red a b c d p.f2 p.f3) > 1048576)
def tls (a b c d e f : Int) : Int := wrap64 (wrap64 (cdiv c e - fdiv a e) * wrap64 (cdiv d f - fdiv b f))
def HD1 (a b c d e f : Int) (l : List S51) : Int := if l.all (cok a b c d) = true then (if tls a b c d e f > 1024 then 5 else if l.any (big a b c d) = true then 5 else 0) else 12
def HD (a b c d e f : Int) (l : List S51) : Int :=
  if Valid a b c d ∧ ¬ (c ≤ a ∨ d ≤ b) ∧ inn e 1 4096 = true ∧ inn f 1 4096 = true ∧ inn (l.length : Int) 1 4 = true then HD1 a b c d e f l else 12
theorem hd_l1 (a b c d e f : Int) (l l' : List S51) (hl : l.length < 1000000000000000) : ∀ post pre, l = pre ++ post → Ev (fun k => params_Header.l1 k l (l.length : Int) (pre.length : Int) a b c d e f l') (if post.any (big a b c d) = true then 5 else 0) := by
  intro post
  induction post with
  | nil =>
    intro pre h
    rw [List.append_nil] at h
    subst h
    refine Ev.step (fun k => by rw [params_Header.l1, if_neg (by omega)]) ?_
    exact Ev.const _
  | cons x post ih =>
    intro pre h
    have hx : rd_T51 l (pre.length : Int) = x := by rw [h]; exact rdC_at _ _ _
    have hi : (pre.length : Int) < (l.length : Int) := by rw [h]; exact in_app _ _ _
    have hs : wrap64 ((pre.length : Int) + 1) = ((pre ++ [x]).length : Int) := nx pre x (by omega)
    have hc : (x :: post).any (big a b c d) = (big a b c d x || post.any (big a b c d)) := rfl
    rw [hc]
    refine Ev.step (fun k => by rw [params_Header.l1, if_pos hi, if_pos (by omega), if_pos hi, hx]) (Ev.bind (red_ev _ _ _ _ _ _) ?_)
    refine Ev.eq (fun k => by rw [area_eq, Option.bind_some]) ?_
    by_cases h1 : AR (Red a b c d x.f2 x.f3) > 1048576
    · refine Ev.eq (fun k => by rw [if_pos (by exact h1)]) ?_
      rw [show big a b c d x = true from decide_eq_true h1]
      exact Ev.const _
    · refine Ev.eq (fun k => by rw [if_neg (by exact h1), hs]) ?_
      rw [show big a b c d x = false from decide_eq_false h1, Bool.false_or]
      exact ih (pre ++ [x]) (by simp [h])
theorem hd_l0 (a b c d e f : Int) (l : List S51) (hl : l.length < 1000000000000000) : ∀ post pre, l = pre ++ post → Ev (fun k => params_Header.l0 k l (l.length : Int) (pre.length : Int) a b c d e f l) (if post.all (cok a b c d) = true then (if tls a b c d e f > 1024 then 5 else if l.any (big a b c d) = true then 5 else 0) else 12) := by
  intro post
  induction post with
  | nil =>
    intro pre h
    rw [List.append_nil] at h
    refine Ev.step (fun k => by rw [params_Header.l0, if_neg (by rw [h]; omega), ceil_eq, Option.bind_some, floor_eq, Option.bind_some, ceil_eq, Option.bind_some, floor_eq, Option.bind_some]) ?_
    show Ev _ (if tls a b c d e f > 1024 then 5 else if l.any (big a b c d) = true then 5 else 0)
    by_cases h1 : tls a b c d e f > 1024
    · rw [if_pos h1]
      refine Ev.eq (fun k => by rw [if_pos (by exact h1)]) ?_
      exact Ev.const _
    · rw [if_neg h1]
      refine Ev.eq (fun k => by rw [if_neg (by exact h1)]) ?_
      exact hd_l1 a b c d e f l l hl l [] rfl
  | cons x post ih =>
    intro pre h
    have hx : rd_T51 l (pre.length : Int) = x := by rw [h]; exact rdC_at _ _ _
    have hi : (pre.length : Int) < (l.length : Int) := by rw [h]; exact in_app _ _ _
    have hs : wrap64 ((pre.length : Int) + 1) = ((pre ++ [x]).length : Int) := nx pre x (by omega)
    have hc : (x :: post).all (cok a b c d) = (cok a b c d x && post.all (cok a b c d)) := rfl
    rw [hc]
    refine Ev.step (fun k => by rw [params_Header.l0, if_pos hi, if_pos (by omega), if_pos hi, hx]) (Ev.bind (win_ev 1 16 [x.f0] (by simp)) ?_)
    have e1 : ([x.f0].all fun x => inn x 1 16) = inn x.f0 1 16 := by simp
    have e2 : ([x.f2, x.f3].all fun x => inn x 1 4) = (inn x.f2 1 4 && inn x.f3 1 4) := by simp
    rw [e1]
    by_cases h1 : inn x.f0 1 16 = true
    · refine Ev.eq (fun k => by rw [if_pos h1]) (Ev.bind (win_ev 1 4 [x.f2, x.f3] (by simp)) ?_)
      rw [e2]
      by_cases h2 : (inn x.f2 1 4 && inn x.f3 1 4) = true
      · refine Ev.eq (fun k => by rw [if_pos h2]) (Ev.bind (red_ev _ _ _ _ _ _) ?_)
        rw [Bool.and_eq_true] at h2
        by_cases h3 : (Red a b c d x.f2 x.f3).2.2.1 ≤ (Red a b c d x.f2 x.f3).1 ∨ (Red a b c d x.f2 x.f3).2.2.2 ≤ (Red a b c d x.f2 x.f3).2.1
        · refine Ev.eq (fun k => by rw [empty_eq, Option.bind_some, if_pos (decide_eq_true h3)]) ?_
          rw [show cok a b c d x = false by unfold cok; rw [decide_eq_true h3]; simp, Bool.false_and]
          exact Ev.const _
        · refine Ev.eq (fun k => by rw [empty_eq, Option.bind_some, if_neg (by simpa using h3), hs]) ?_
          rw [show cok a b c d x = true by unfold cok; rw [decide_eq_false h3, h1, h2.1, h2.2]; rfl, Bool.true_and]
          exact ih (pre ++ [x]) (by simp [h])
      · refine Ev.eq (fun k => by rw [if_neg h2]) ?_
        rw [show cok a b c d x = false by
          unfold cok
          rw [← Bool.and_assoc (inn x.f2 1 4), Bool.eq_false_iff.mpr h2, Bool.false_and, Bool.and_false], Bool.false_and]
        exact Ev.const _
    · refine Ev.eq (fun k => by rw [if_neg h1]) ?_
      rw [show cok a b c d x = false by unfold cok; rw [Bool.eq_false_iff.mpr h1, Bool.false_and], Bool.false_and]
      exact Ev.const _
theorem hd_j0 (a b c d e f : Int) (l : List S51) : Ev (fun k => params_Header.j0 k true a b c d e f l) 12 := Ev.step (fun k => by rw [params_Header.j0, if_pos rfl]) (Ev.const _)
theorem hd_ev (a b c d e f : Int) (l : List S51) (hl : l.length < 1000000000000000) : Ev (fun k => params_Header.f k a b c d e f l) (HD a b c d e f l) := by
  unfold HD
  by_cases h1 : Valid a b c d
  · refine Ev.eq (fun k => by rw [params_Header.f, valid_eq, Option.bind_some, if_pos (decide_eq_true h1), empty_eq, Option.bind_some]) ?_
    by_cases h2 : c ≤ a ∨ d ≤ b
    · rw [if_neg (fun h => h.2.1 h2)]
      refine Ev.eq (fun k => by rw [if_pos (decide_eq_true h2)]) ?_
      exact hd_j0 _ _ _ _ _ _ _
    · refine Ev.eq (fun k => by rw [if_neg (by simpa using h2)]) (Ev.bind (win_ev 1 4096 [e, f] (by simp)) ?_)
      have e1 : ([e, f].all fun x => inn x 1 4096) = (inn e 1 4096 && inn f 1 4096) := by simp
      rw [e1]
      by_cases h3 : (inn e 1 4096 && inn f 1 4096) = true
      · refine Ev.eq (fun k => by rw [if_pos h3]) (Ev.bind (win_ev 1 4 [(l.length : Int)] (by simp)) ?_)
        have e2 : ([(l.length : Int)].all fun x => inn x 1 4) = inn (l.length : Int) 1 4 := by simp
        rw [e2]
        rw [Bool.and_eq_true] at h3
        by_cases h4 : inn (l.length : Int) 1 4 = true
        · rw [if_pos ⟨h1, h2, h3.1, h3.2, h4⟩]
          refine Ev.eq (fun k => by rw [h4]) ?_
          refine Ev.step (fun k => by rw [params_Header.j0, if_neg (by decide)]) ?_
          exact hd_l0 a b c d e f l hl l [] rfl
        · rw [if_neg (fun h => h4 h.2.2.2.2)]
          refine Ev.eq (fun k => by rw [Bool.eq_false_iff.mpr h4]) ?_
          exact hd_j0 _ _ _ _ _ _ _
      · rw [if_neg (fun h => h3 (by rw [h.2.2.1, h.2.2.2.1]; rfl))]
        refine Ev.eq (fun k => by rw [if_neg h3]) ?_
        exact hd_j0 _ _ _ _ _ _ _
  · rw [if_neg (fun h => h1 h.1)]
    refine Ev.eq (fun k => by rw [params_Header.f, valid_eq, Option.bind_some, if_neg (by simpa using h1)]) ?_
    exact hd_j0 _ _ _ _ _ _ _

/-! ### The specification's -/
theorem rhd_l1 (a b c d e f : Int) (l : List S51) (hl : l.length < 1000000000000000) : ∀ post pre, l = pre ++ post → Ev (fun k => waveletref23_Header.l1 k (pre.length : Int) a b c d e f l) (if post.any (big a b c d) = true then 5 else 0) := by
  intro post
  induction post with
  | nil =>
    intro pre h
    rw [List.append_nil] at h
    subst h
    refine Ev.step (fun k => by rw [waveletref23_Header.l1, if_neg (by omega)]) ?_
    exact Ev.const _
  | cons x post ih =>
    intro pre h
    have hx : rd_T51 l (pre.length : Int) = x := by rw [h]; exact rdC_at _ _ _
    have hi : (pre.length : Int) < (l.length : Int) := by rw [h]; exact in_app _ _ _
    have hs : wrap64 ((pre.length : Int) + 1) = ((pre ++ [x]).length : Int) := nx pre x (by omega)
    have hc : (x :: post).any (big a b c d) = (big a b c d x || post.any (big a b c d)) := rfl
    rw [hc]
    refine Ev.step (fun k => by rw [waveletref23_Header.l1, if_pos hi, if_pos (by omega), hx]) (Ev.bind (rred_ev _ _ _ _ _ _) ?_)
    refine Ev.eq (fun k => by rw [rarea_eq, Option.bind_some]) ?_
    by_cases h1 : AR (Red a b c d x.f2 x.f3) > 1048576
    · refine Ev.eq (fun k => by rw [if_pos (by exact h1)]) ?_
      rw [show big a b c d x = true from decide_eq_true h1]
      exact Ev.const _
    · refine Ev.eq (fun k => by rw [if_neg (by exact h1), hs]) ?_
      rw [show big a b c d x = false from decide_eq_false h1, Bool.false_or]
      exact ih (pre ++ [x]) (by simp [h])
theorem rceil_eq (a b : Int) : waveletref01_CeilDiv.f a b = some (cdiv a b) := ceil_eq a b
theorem rfloor_eq (a b : Int) : waveletref01_FloorDiv.f a b = some (fdiv a b) := floor_eq a b
theorem rhd_l0 (a b c d e f : Int) (l : List S51) (hl : l.length < 1000000000000000) : ∀ post pre, l = pre ++ post → Ev (fun k => waveletref23_Header.l0 k (pre.length : Int) a b c d e f l) (if post.all (cok a b c d) = true then (if tls a b c d e f > 1024 then 5 else if l.any (big a b c d) = true then 5 else 0) else 12) := by
  intro post
  induction post with
  | nil =>
    intro pre h
    rw [List.append_nil] at h
    refine Ev.step (fun k => by rw [waveletref23_Header.l0, if_neg (by rw [h]; omega), waveletref23_tiles.f, rceil_eq, Option.bind_some, rfloor_eq, Option.bind_some, rceil_eq, Option.bind_some, rfloor_eq, Option.bind_some, Option.bind_some]) ?_
    show Ev _ (if tls a b c d e f > 1024 then 5 else if l.any (big a b c d) = true then 5 else 0)
    by_cases h1 : tls a b c d e f > 1024
    · rw [if_pos h1]
      refine Ev.eq (fun k => by rw [if_pos (by exact h1)]) ?_
      exact Ev.const _
    · rw [if_neg h1]
      refine Ev.eq (fun k => by rw [if_neg (by exact h1)]) ?_
      exact rhd_l1 a b c d e f l hl l [] rfl
  | cons x post ih =>
    intro pre h
    have hx : rd_T51 l (pre.length : Int) = x := by rw [h]; exact rdC_at _ _ _
    have hi : (pre.length : Int) < (l.length : Int) := by rw [h]; exact in_app _ _ _
    have hs : wrap64 ((pre.length : Int) + 1) = ((pre ++ [x]).length : Int) := nx pre x (by omega)
    have hc : (x :: post).all (cok a b c d) = (cok a b c d x && post.all (cok a b c d)) := rfl
    rw [hc]
    refine Ev.step (fun k => by rw [waveletref23_Header.l0, if_pos hi, if_pos (by omega), hx, rin_eq, Option.bind_some]) ?_
    by_cases h1 : inn x.f0 1 16 = true
    · refine Ev.eq (fun k => by rw [if_pos h1, rin_eq, Option.bind_some]) ?_
      by_cases h2 : inn x.f2 1 4 = true
      · refine Ev.eq (fun k => by rw [if_pos h2, rin_eq, Option.bind_some]) ?_
        by_cases h2' : inn x.f3 1 4 = true
        · refine Ev.eq (fun k => by rw [if_pos h2']) (Ev.bind (rred_ev _ _ _ _ _ _) ?_)
          by_cases h3 : (Red a b c d x.f2 x.f3).2.2.1 ≤ (Red a b c d x.f2 x.f3).1 ∨ (Red a b c d x.f2 x.f3).2.2.2 ≤ (Red a b c d x.f2 x.f3).2.1
          · refine Ev.eq (fun k => by rw [rempty_eq, Option.bind_some, if_pos (decide_eq_true h3)]) ?_
            rw [show cok a b c d x = false by unfold cok; rw [decide_eq_true h3]; simp, Bool.false_and]
            exact Ev.const _
          · refine Ev.eq (fun k => by rw [rempty_eq, Option.bind_some, if_neg (by simpa using h3), hs]) ?_
            rw [show cok a b c d x = true by unfold cok; rw [decide_eq_false h3, h1, h2, h2']; rfl, Bool.true_and]
            exact ih (pre ++ [x]) (by simp [h])
        · refine Ev.eq (fun k => by rw [if_neg h2']) ?_
          rw [show cok a b c d x = false by unfold cok; rw [Bool.eq_false_iff.mpr h2', Bool.false_and, Bool.and_false, Bool.and_false], Bool.false_and]
          exact Ev.const _
      · refine Ev.eq (fun k => by rw [if_neg h2]) ?_
        rw [show cok a b c d x = false by unfold cok; rw [Bool.eq_false_iff.mpr h2, Bool.false_and, Bool.and_false], Bool.false_and]
        exact Ev.const _
    · refine Ev.eq (fun k => by rw [if_neg h1]) ?_
      rw [show cok a b c d x = false by unfold cok; rw [Bool.eq_false_iff.mpr h1, Bool.false_and], Bool.false_and]
      exact Ev.const _
theorem rhd_j0 (a b c d e f : Int) (l : List S51) : Ev (fun k => waveletref23_Header.j0 k true a b c d e f l) 12 := Ev.step (fun k => by rw [waveletref23_Header.j0, if_pos rfl]) (Ev.const _)
theorem rhd_ev (a b c d e f : Int) (l : List S51) (hl : l.length < 1000000000000000) : Ev (fun k => waveletref23_Header.f k a b c d e f l) (HD a b c d e f l) := by
  unfold HD
  by_cases h1 : Valid a b c d
  · refine Ev.eq (fun k => by rw [waveletref23_Header.f, rvalid_eq, Option.bind_some, if_pos (decide_eq_true h1), rempty_eq, Option.bind_some]) ?_
    by_cases h2 : c ≤ a ∨ d ≤ b
    · rw [if_neg (fun h => h.2.1 h2)]
      refine Ev.eq (fun k => by rw [if_pos (decide_eq_true h2)]) ?_
      exact rhd_j0 _ _ _ _ _ _ _
    · refine Ev.eq (fun k => by rw [if_neg (by simpa using h2), rin_eq, Option.bind_some]) ?_
      by_cases h3 : inn e 1 4096 = true
      · refine Ev.eq (fun k => by rw [if_pos h3, rin_eq, Option.bind_some]) ?_
        by_cases h5 : inn f 1 4096 = true
        · refine Ev.eq (fun k => by rw [if_pos h5, rin_eq, Option.bind_some]) ?_
          by_cases h4 : inn (l.length : Int) 1 4 = true
          · rw [if_pos ⟨h1, h2, h3, h5, h4⟩]
            refine Ev.eq (fun k => by rw [h4]) ?_
            refine Ev.step (fun k => by rw [waveletref23_Header.j0, if_neg (by decide)]) ?_
            exact rhd_l0 a b c d e f l hl l [] rfl
          · rw [if_neg (fun h => h4 h.2.2.2.2)]
            refine Ev.eq (fun k => by rw [Bool.eq_false_iff.mpr h4]) ?_
            exact rhd_j0 _ _ _ _ _ _ _
        · rw [if_neg (fun h => h5 h.2.2.2.1)]
          refine Ev.eq (fun k => by rw [if_neg h5]) ?_
          exact rhd_j0 _ _ _ _ _ _ _
      · rw [if_neg (fun h => h3 h.2.2.1)]
        refine Ev.eq (fun k => by rw [if_neg h3]) ?_
        exact rhd_j0 _ _ _ _ _ _ _
  · rw [if_neg (fun h => h1 h.1)]
    refine Ev.eq (fun k => by rw [waveletref23_Header.f, rvalid_eq, Option.bind_some, if_neg (by simpa using h1)]) ?_
    exact rhd_j0 _ _ _ _ _ _ _

/-! ### Rate -/
def sumA (a b c d : Int) (n : Int) (l : List S51) : Int := l.foldl (fun n p => wrap64 (n + AR (Red a b c d p.f2 p.f3))) n
theorem area_pos {a b c d : Int} {p : S51} (h : cok a b c d p = true) (hb : big a b c d p = false) : 1 ≤ AR (Red a b c d p.f2 p.f3) ∧ AR (Red a b c d p.f2 p.f3) ≤ 1048576 := by
  have h2 : AR (Red a b c d p.f2 p.f3) ≤ 1048576 := by have := of_decide_eq_false hb; omega
  refine ⟨?_, h2⟩
  unfold cok inn at h
  simp only [Bool.and_eq_true, decide_eq_true_eq, Bool.not_eq_true', decide_eq_false_iff_not] at h
  obtain ⟨_, hx, hy, he⟩ := h
  unfold Red at he ⊢
  by_cases hr : Valid a b c d ∧ 1 ≤ p.f2 ∧ p.f2 ≤ 4096 ∧ 1 ≤ p.f3 ∧ p.f3 ≤ 4096
  · rw [if_pos hr] at he ⊢
    have hv := hr.1
    unfold Valid at hv
    dsimp only at he
    show 1 ≤ Area (cdiv a p.f2) (cdiv b p.f3) (cdiv c p.f2) (cdiv d p.f3)
    have b1 : cdiv c p.f2 ≤ 4096 := (cdiv_le (by omega) hx.1 (by omega) 4096).mpr (by have := Int.mul_le_mul_of_nonneg_left hx.1 (show (0 : Int) ≤ 4096 by omega); omega)
    have b2 : cdiv d p.f3 ≤ 4096 := (cdiv_le (by omega) hy.1 (by omega) 4096).mpr (by have := Int.mul_le_mul_of_nonneg_left hy.1 (show (0 : Int) ≤ 4096 by omega); omega)
    have b3 := (cdiv_pos (a := a) (w := p.f2) (by omega) (by omega) hx.1).2.1
    have b4 := (cdiv_pos (a := b) (w := p.f3) (by omega) (by omega) hy.1).2.1
    unfold Area
    rw [if_pos (by unfold Valid; omega)]
    have := Int.mul_le_mul (show (1 : Int) ≤ cdiv c p.f2 - cdiv a p.f2 by omega) (show (1 : Int) ≤ cdiv d p.f3 - cdiv b p.f3 by omega) (by omega) (by omega)
    omega
  · rw [if_neg hr] at he
    exact absurd (Or.inl (Int.le_refl _)) he
theorem sumA_pos (a b c d : Int) : ∀ (l : List S51) (n : Int), 0 ≤ n → n + (l.length : Int) * 1048576 < 4611686018427387904 → (∀ p ∈ l, cok a b c d p = true ∧ big a b c d p = false) → n + (l.length : Int) ≤ sumA a b c d n l
  | [], n, _, _, _ => by show n + 0 ≤ n; omega
  | p :: t, n, h0, h1, h => by
    rw [List.length_cons] at h1 ⊢
    have hp := area_pos (h p (by simp)).1 (h p (by simp)).2
    have e : wrap64 (n + AR (Red a b c d p.f2 p.f3)) = n + AR (Red a b c d p.f2 p.f3) := by unfold wrap64; omega
    have ih := sumA_pos a b c d t (n + AR (Red a b c d p.f2 p.f3)) (by omega) (by omega) (fun q hq => h q (by simp [hq]))
    show _ ≤ sumA a b c d (wrap64 (n + AR (Red a b c d p.f2 p.f3))) t
    rw [e]
    omega
theorem rate_l0 (s a b c d e f : Int) (l l' : List S51) (hl : l.length < 1000000000000000) (n0 : Int) (hn : sumA a b c d 0 l = n0) (h0 : ¬ n0 = 0) : ∀ post pre n, l = pre ++ post → sumA a b c d n post = n0 →
    Ev (fun k => metrics_Rate.l0 k s n l (l.length : Int) (pre.length : Int) a b c d e f l') (wrap64 (Int.tdiv (wrap64 (8000 * s)) n0), 0) := by
  intro post
  induction post with
  | nil =>
    intro pre n h hs
    rw [List.append_nil] at h
    subst h
    have e1 : n = n0 := hs
    subst e1
    refine Ev.step (fun k => by rw [metrics_Rate.l0, if_neg (by omega), if_neg h0]) ?_
    exact Ev.const _
  | cons x post ih =>
    intro pre n h hsum
    have hx : rd_T51 l (pre.length : Int) = x := by rw [h]; exact rdC_at _ _ _
    have hi : (pre.length : Int) < (l.length : Int) := by rw [h]; exact in_app _ _ _
    have hs : wrap64 ((pre.length : Int) + 1) = ((pre ++ [x]).length : Int) := nx pre x (by omega)
    refine Ev.step (fun k => by rw [metrics_Rate.l0, if_pos hi, if_pos (by omega), if_pos hi, hx]) (Ev.bind (red_ev _ _ _ _ _ _) ?_)
    refine Ev.eq (fun k => by rw [area_eq, Option.bind_some, hs]) ?_
    exact ih (pre ++ [x]) (wrap64 (n + AR (Red a b c d x.f2 x.f3))) (by simp [h]) hsum
theorem rrate_l0 (s a b c d e f : Int) (l : List S51) (hl : l.length < 1000000000000000) (n0 : Int) (hn : sumA a b c d 0 l = n0) (h0 : ¬ n0 = 0) : ∀ post pre n, l = pre ++ post → sumA a b c d n post = n0 →
    Ev (fun k => waveletref50_Rate.l0 k s n (pre.length : Int) a b c d e f l) (wrap64 (Int.tdiv (wrap64 (8000 * s)) n0), 0) := by
  intro post
  induction post with
  | nil =>
    intro pre n h hs
    rw [List.append_nil] at h
    subst h
    have e1 : n = n0 := hs
    subst e1
    refine Ev.step (fun k => by rw [waveletref50_Rate.l0, if_neg (by omega), if_neg h0]) ?_
    exact Ev.const _
  | cons x post ih =>
    intro pre n h hsum
    have hx : rd_T51 l (pre.length : Int) = x := by rw [h]; exact rdC_at _ _ _
    have hi : (pre.length : Int) < (l.length : Int) := by rw [h]; exact in_app _ _ _
    have hs : wrap64 ((pre.length : Int) + 1) = ((pre ++ [x]).length : Int) := nx pre x (by omega)
    refine Ev.step (fun k => by rw [waveletref50_Rate.l0, if_pos hi, if_pos (by omega), hx]) (Ev.bind (rred_ev _ _ _ _ _ _) ?_)
    refine Ev.eq (fun k => by rw [rarea_eq, Option.bind_some, hs]) ?_
    exact ih (pre ++ [x]) (wrap64 (n + AR (Red a b c d x.f2 x.f3))) (by simp [h]) hsum
def RT (s a b c d e f : Int) (l : List S51) : Int × Int :=
  if HD a b c d e f l = 0 then (if s < 0 ∨ s > 67108864 then (0, 2) else (wrap64 (Int.tdiv (wrap64 (8000 * s)) (sumA a b c d 0 l)), 0)) else (0, HD a b c d e f l)
theorem sum_ne {a b c d e f : Int} {l : List S51} (h : HD a b c d e f l = 0) : ¬ sumA a b c d 0 l = 0 := by
  unfold HD at h
  split at h
  · rename_i hc
    unfold HD1 at h
    split at h
    · rename_i h1
      split at h
      · simp at h
      · split at h
        · simp at h
        · rename_i h2
          have h4 : 1 ≤ (l.length : Int) ∧ (l.length : Int) ≤ 4 := of_decide_eq_true hc.2.2.2.2
          have := sumA_pos a b c d l 0 (Int.le_refl _) (by omega) (fun p hp => ⟨List.all_eq_true.mp h1 p hp, by
            have h5 := Bool.eq_false_iff.mpr h2
            rw [List.any_eq_false] at h5
            exact Bool.eq_false_iff.mpr (h5 p hp)⟩)
          omega
    · simp at h
  · simp at h
theorem rate_ev (s a b c d e f : Int) (l : List S51) (hl : l.length < 1000000000000000) : Ev (fun k => metrics_Rate.f k s a b c d e f l) (RT s a b c d e f l) := by
  unfold RT
  refine Ev.bind (hd_ev a b c d e f l hl) ?_
  by_cases h : HD a b c d e f l = 0
  · rw [if_pos h]
    refine Ev.eq (fun k => by rw [if_pos h]) ?_
    by_cases h1 : s < 0
    · rw [if_pos (Or.inl h1)]
      refine Ev.eq (fun k => by rw [if_pos h1]) ?_
      refine Ev.step (fun k => by rw [metrics_Rate.j0, if_pos rfl]) ?_
      exact Ev.const _
    by_cases h2 : s > 67108864
    · rw [if_pos (Or.inr h2)]
      refine Ev.eq (fun k => by rw [if_neg h1, decide_eq_true h2]) ?_
      refine Ev.step (fun k => by rw [metrics_Rate.j0, if_pos rfl]) ?_
      exact Ev.const _
    rw [if_neg (by omega)]
    refine Ev.eq (fun k => by rw [if_neg h1, decide_eq_false h2]) ?_
    refine Ev.step (fun k => by rw [metrics_Rate.j0, if_neg (by decide)]) ?_
    exact rate_l0 s a b c d e f l l hl _ rfl (sum_ne h) l [] 0 rfl rfl
  · rw [if_neg h]
    refine Ev.eq (fun k => by rw [if_neg h]) ?_
    exact Ev.const _
theorem rrate_ev (s a b c d e f : Int) (l : List S51) (hl : l.length < 1000000000000000) : Ev (fun k => waveletref50_Rate.f k s a b c d e f l) (RT s a b c d e f l) := by
  unfold RT
  refine Ev.bind (rhd_ev a b c d e f l hl) ?_
  by_cases h : HD a b c d e f l = 0
  · rw [if_pos h]
    refine Ev.eq (fun k => by rw [if_pos h]) ?_
    by_cases h1 : s < 0
    · rw [if_pos (Or.inl h1)]
      refine Ev.eq (fun k => by rw [if_pos h1]) ?_
      refine Ev.step (fun k => by rw [waveletref50_Rate.j0, if_pos rfl]) ?_
      exact Ev.const _
    by_cases h2 : s > 67108864
    · rw [if_pos (Or.inr h2)]
      refine Ev.eq (fun k => by rw [if_neg h1, decide_eq_true h2]) ?_
      refine Ev.step (fun k => by rw [waveletref50_Rate.j0, if_pos rfl]) ?_
      exact Ev.const _
    rw [if_neg (by omega)]
    refine Ev.eq (fun k => by rw [if_neg h1, decide_eq_false h2]) ?_
    refine Ev.step (fun k => by rw [waveletref50_Rate.j0, if_neg (by decide)]) ?_
    exact rrate_l0 s a b c d e f l hl _ rfl (sum_ne h) l [] 0 rfl rfl
  · rw [if_neg h]
    refine Ev.eq (fun k => by rw [if_neg h]) ?_
    exact Ev.const _
theorem MetricsRates (a0 : Int) (a1_0 : Int) (a1_1 : Int) (a1_2 : Int) (a1_3 : Int) (a1_4 : Int) (a1_5 : Int) (l1_6 : List (S51)) (w0 : (Lit.int .i64 a0).wf = true) (w1_0 : (Lit.int .i64 a1_0).wf = true) (w1_1 : (Lit.int .i64 a1_1).wf = true) (w1_2 : (Lit.int .i64 a1_2).wf = true) (w1_3 : (Lit.int .i64 a1_3).wf = true) (w1_4 : (Lit.int .i64 a1_4).wf = true) (w1_5 : (Lit.int .i64 a1_5).wf = true) (y1_6 : l1_6.length * 32 ≤ 140737488351232) (w1_6 : ∀ x ∈ l1_6, ((Lit.int .i64 x.f0).wf = true ∧ True ∧ (Lit.int .i64 x.f2).wf = true ∧ (Lit.int .i64 x.f3).wf = true)) : ∃ k, waveletlaw50_MetricsRates.f k a0 a1_0 a1_1 a1_2 a1_3 a1_4 a1_5 l1_6 = some true := by
  have hl : l1_6.length < 1000000000000000 := by omega
  clear w0 w1_0 w1_1 w1_2 w1_3 w1_4 w1_5 y1_6 w1_6
  refine Ev.ex (v := true) ?_
  have hex : Ev (fun k => (waveletlaw50_exampleHolds.f k).bind fun t => some t) true := Ev.bind example_holds (Ev.const _)
  by_cases f1 : (l1_6.length : Int) > 20
  · refine Ev.eq (fun k => by rw [waveletlaw50_MetricsRates.f, if_pos f1]) ?_
    exact hex
  · refine Ev.eq (fun k => by rw [waveletlaw50_MetricsRates.f, if_neg f1]) (Ev.bind (rate_ev _ _ _ _ _ _ _ _ hl) (Ev.bind (rrate_ev _ _ _ _ _ _ _ _ hl) ?_))
    refine Ev.eq (fun k => by rw [if_pos rfl, if_pos rfl]) ?_
    exact hex
end Go.Proofs.Ytfihdlekeainpaa.Pure
