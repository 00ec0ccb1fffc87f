/- MetricsSums: the counts of a histogram add up, begin and end with numbers above 0, and do not depend on the order of the samples. -/
import Derived.Test.YtfihdlekeainpaaPureHist
import Derived.Test.YtfihdlekeainpaaPureInts
import Derived.Test.YtfihdlekeainpaaQ52
namespace Go.Proofs.Ytfihdlekeainpaa.Pure
open Go.RowKit Go.Proofs.Ytfihdlekeainpaa.Q Go.Proofs.YtfihdlekeainpaaW.PrintWords
set_option linter.unusedVariables false
/-- The counts of a list, from 'low' on. -/
def tally (l : List Int) (low : Int) (n : Nat) : List Int := (List.range n).map fun j : Nat => ((l.count (low + (j : Int)) : Nat) : Int)
theorem tally_nil (low : Int) (n : Nat) : List.replicate n 0 = tally [] low n := by
  apply List.ext_getElem
  · simp [tally]
  · intro i h1 h2
    simp [tally]
theorem tally_step (pre : List Int) (low : Int) (n : Nat) (x : Int) (h0 : 0 ≤ x - low) (h1 : x - low < n) (hb : n ≤ 70000) (hp : pre.length < 1000000) : hStep low (tally pre low n) x = tally (pre ++ [x]) low n := by
  have hw : wrap64 (x - low) = x - low := by unfold wrap64; omega
  unfold hStep
  rw [hw]
  have hc : rd (tally pre low n) (x - low) = ((pre.count x : Nat) : Int) := by
    have hlt : (x - low).toNat < n := by omega
    have e : low + (((x - low).toNat : Nat) : Int) = x := by omega
    unfold rd tally
    rw [List.getD_eq_getElem?_getD, List.getElem?_map, List.getElem?_range hlt]
    show ((pre.count (low + (((x - low).toNat : Nat) : Int)) : Nat) : Int) = _
    rw [e]
  have hle : pre.count x ≤ pre.length := List.count_le_length
  rw [hc, show wrap64 (((pre.count x : Nat) : Int) + 1) = ((pre.count x : Nat) : Int) + 1 by unfold wrap64; omega]
  apply List.ext_getElem
  · simp [tally]
  · intro i h2 h3
    rw [List.getElem_set]
    simp only [tally, List.getElem_map, List.getElem_range, List.count_append, List.count_singleton]
    by_cases e : (x - low).toNat = i
    · rw [if_pos e]
      have e2 : low + (i : Int) = x := by omega
      rw [e2]
      simp
    · rw [if_neg e]
      have e2 : ¬ x = low + (i : Int) := by omega
      simp [e2]
theorem tally_fold (low : Int) (n : Nat) (hb : n ≤ 70000) : ∀ (post pre : List Int), (∀ x ∈ post, 0 ≤ x - low ∧ x - low < n) → pre.length + post.length < 1000000 → post.foldl (hStep low) (tally pre low n) = tally (pre ++ post) low n
  | [], pre, _, _ => by rw [List.append_nil]; rfl
  | x :: post, pre, h, hp => by
    rw [List.length_cons] at hp
    show post.foldl (hStep low) (hStep low (tally pre low n) x) = _
    have hx := h x (by simp)
    rw [tally_step pre low n x hx.1 hx.2 hb (by omega), tally_fold low n hb post (pre ++ [x]) (fun y hy => h y (by simp [hy])) (by simp; omega)]
    simp
def addUp : List Int → Int
  | [] => 0
  | x :: t => x + addUp t
theorem addUp_app : ∀ (a b : List Int), addUp (a ++ b) = addUp a + addUp b
  | [], b => by show addUp b = 0 + addUp b; omega
  | x :: a, b => by
    have h := addUp_app a b
    show x + addUp (a ++ b) = x + addUp a + addUp b
    omega
theorem tally_sum (l : List Int) (low : Int) : ∀ n : Nat, addUp (tally l low n) = ((l.filter fun x => decide (low ≤ x ∧ x < low + n)).length : Int)
  | 0 => by
    have e : (l.filter fun x => decide (low ≤ x ∧ x < low + ((0 : Nat) : Int))) = [] := by
      rw [List.filter_eq_nil_iff]
      intro x hx
      simp only [decide_eq_true_eq]
      omega
    rw [e]
    rfl
  | n + 1 => by
    have ih := tally_sum l low n
    have e : tally l low (n + 1) = tally l low n ++ [((l.count (low + (n : Int)) : Nat) : Int)] := by
      unfold tally
      rw [List.range_succ, List.map_append]
      rfl
    rw [e, addUp_app, ih]
    show _ + (((l.count (low + (n : Int)) : Nat) : Int) + 0) = _
    clear ih e
    induction l with
    | nil => rfl
    | cons x l ih =>
      by_cases h1 : x = low + (n : Int)
      · have c1 : decide (low ≤ x ∧ x < low + (n : Int)) = false := decide_eq_false (by omega)
        have c2 : decide (low ≤ x ∧ x < low + ((n + 1 : Nat) : Int)) = true := decide_eq_true (by omega)
        have c3 : (x == low + (n : Int)) = true := by rw [beq_iff_eq]; exact h1
        simp only [List.count_cons, List.filter_cons, c1, c2, c3, if_true, Bool.false_eq_true, if_false, List.length_cons]
        omega
      · have c3 : (x == low + (n : Int)) = false := by rw [beq_eq_false_iff_ne]; exact h1
        by_cases h2 : low ≤ x ∧ x < low + (n : Int)
        · have c1 : decide (low ≤ x ∧ x < low + (n : Int)) = true := decide_eq_true h2
          have c2 : decide (low ≤ x ∧ x < low + ((n + 1 : Nat) : Int)) = true := decide_eq_true (by omega)
          simp only [List.count_cons, List.filter_cons, c1, c2, c3, if_true, Bool.false_eq_true, if_false, List.length_cons]
          omega
        · have c1 : decide (low ≤ x ∧ x < low + (n : Int)) = false := decide_eq_false h2
          have c2 : decide (low ≤ x ∧ x < low + ((n + 1 : Nat) : Int)) = false := decide_eq_false (by omega)
          simp only [List.count_cons, List.filter_cons, c1, c2, c3, Bool.false_eq_true, if_false]
          omega
theorem rd_mem {l : List Int} {i : Int} (h0 : 0 ≤ i) (h1 : i < l.length) : rd l i ∈ l := by
  unfold rd
  have : i.toNat < l.length := by omega
  rw [List.getD_eq_getElem?_getD, List.getElem?_eq_getElem this]
  exact List.getElem_mem _
theorem sums_l0 (x3 : Int) (x4 : List Int) (a b c d a' b' c' d' : Int) (l : List Int) (hl : l.length ≤ 400) (R : Bool)
    (hout : Ev (fun k => waveletlaw50_MetricsSums.l1 k x3 x4 0 0 a b c d l a' b' c' d' l.reverse) R) :
    ∀ post pre, l.reverse = pre ++ post → Ev (fun k => waveletlaw50_MetricsSums.l0 k x3 x4 0 (pre.length : Int) a b c d l a' b' c' d' pre) R := by
  intro post
  induction post with
  | nil =>
    intro pre h
    rw [List.append_nil] at h
    have hp : pre.length = l.length := by rw [← h, List.length_reverse]
    refine Ev.step (fun k => by rw [waveletlaw50_MetricsSums.l0, if_neg (by omega)]) ?_
    rw [← h]
    exact hout
  | cons x post ih =>
    intro pre h
    have hn : l.length = pre.length + (post.length + 1) := by
      have := congrArg List.length h
      rw [List.length_reverse, List.length_append, List.length_cons] at this
      exact this
    have e1 : wrap64 (wrap64 ((l.length : Int) - 1) - (pre.length : Int)) = (l.length : Int) - 1 - pre.length := by unfold wrap64; omega
    have hx : rd l ((l.length : Int) - 1 - pre.length) = x := by
      have e : l = post.reverse ++ x :: pre.reverse := by
        rw [← List.reverse_reverse l, h]
        simp
      have e2 : ((l.length : Int) - 1 - pre.length) = (post.reverse.length : Int) := by rw [List.length_reverse]; omega
      rw [e2, e]
      exact rd_at _ _ _
    refine Ev.step (fun k => by rw [waveletlaw50_MetricsSums.l0, if_pos (by omega), e1, if_pos (by omega), if_pos (by omega), if_pos (by omega), hx, nx pre x (by omega)]) ?_
    exact ih (pre ++ [x]) (by rw [h]; simp)
theorem sums_l1 (x3 : Int) (x4 : List Int) (hx : x4.length < 1000000) (hx2 : ∀ x ∈ x4, 0 ≤ x) (hx3 : addUp x4 < 1000000) (a b c d a' b' c' d' : Int) (l l' : List Int) (R : Bool)
    (hout : Ev (fun k => (metrics_Histogram.f k a' b' c' d' l').bind fun bt569 => (if bt569.2.2 = 0 then (if bt569.1 = x3 then ((waveletref02_SameInts.f k x4 bt569.2.1).bind fun t574 => (if t574 = true then (if addUp x4 = (l.length : Int) then (if (x4.length : Int) > 0 then (if 0 < (x4.length : Int) then (if (rd x4 0) > 0 then (if 0 ≤ (wrap64 ((x4.length : Int) - 1)) then (if (wrap64 ((x4.length : Int) - 1)) < (x4.length : Int) then (if (rd x4 (wrap64 ((x4.length : Int) - 1))) > 0 then ((waveletlaw50_exampleHolds.f k).bind fun t577 => (some t577)) else (some false)) else (none)) else (none)) else (some false)) else (none)) else (some false)) else (some false)) else (some false))) else (some false)) else (some false))) R) :
    ∀ post pre, x4 = pre ++ post → Ev (fun k => waveletlaw50_MetricsSums.l1 k x3 x4 (addUp pre) (pre.length : Int) a b c d l a' b' c' d' l') R := by
  intro post
  induction post with
  | nil =>
    intro pre h
    rw [List.append_nil] at h
    subst h
    refine Ev.step (fun k => by rw [waveletlaw50_MetricsSums.l1, if_neg (by omega)]) ?_
    exact hout
  | cons x post ih =>
    intro pre h
    have hy : rd x4 (pre.length : Int) = x := by rw [h]; exact rd_at _ _ _
    have hl : (pre.length : Int) < (x4.length : Int) := by rw [h]; exact in_app _ _ _
    have hs : wrap64 ((pre.length : Int) + 1) = ((pre ++ [x]).length : Int) := nx pre x (by omega)
    have hp : 0 ≤ x := hx2 x (by rw [h]; simp)
    have hnn : ∀ (q : List Int), (∀ y ∈ q, 0 ≤ y) → 0 ≤ addUp q := by
      intro q
      induction q with
      | nil => intro _; exact Int.le_refl _
      | cons y q ih2 =>
        intro hq
        have h1 := hq y (by simp)
        have h2 := ih2 (fun z hz => hq z (by simp [hz]))
        show 0 ≤ y + addUp q
        omega
    have h1 := hnn pre (fun y hy => hx2 y (by rw [h]; simp [hy]))
    have h2 := hnn post (fun y hy => hx2 y (by rw [h]; simp [hy]))
    have h3 : addUp x4 = addUp pre + (x + addUp post) := by rw [h, addUp_app]; rfl
    have e : wrap64 (addUp pre + x) = addUp (pre ++ [x]) := by
      rw [addUp_app]
      show _ = addUp pre + (x + 0)
      unfold wrap64
      omega
    refine Ev.step (fun k => by rw [waveletlaw50_MetricsSums.l1, if_pos hl, if_pos (by omega), hy, if_neg (by omega), hs, e]) ?_
    exact ih (pre ++ [x]) (by simp [h])
theorem lo_rev {l : List Int} (h : l ≠ []) : lo l.reverse = lo l := by
  have h' : l.reverse ≠ [] := by simpa using h
  obtain ⟨a1, a2⟩ := lo_is h
  obtain ⟨b1, b2⟩ := lo_is h'
  have := a2 _ (List.mem_reverse.mp b1)
  have := b2 _ (List.mem_reverse.mpr a1)
  omega
theorem hi_rev {l : List Int} (h : l ≠ []) : hi l.reverse = hi l := by
  have h' : l.reverse ≠ [] := by simpa using h
  obtain ⟨a1, a2⟩ := hi_is h
  obtain ⟨b1, b2⟩ := hi_is h'
  have := a2 _ (List.mem_reverse.mp b1)
  have := b2 _ (List.mem_reverse.mpr a1)
  omega
theorem count_pos' {l : List Int} {x : Int} (h : x ∈ l) : 0 < l.count x := List.count_pos_iff.mpr h
theorem MetricsSums (a0_0 : Int) (a0_1 : Int) (a0_2 : Int) (a0_3 : Int) (l0_4 : List (Int)) (w0_0 : (Lit.int .i64 a0_0).wf = true) (w0_1 : (Lit.int .i64 a0_1).wf = true) (w0_2 : (Lit.int .i64 a0_2).wf = true) (w0_3 : (Lit.int .i64 a0_3).wf = true) (y0_4 : l0_4.length * 8 ≤ 140737488351232) (w0_4 : ∀ x ∈ l0_4, (Lit.int .i64 x).wf = true) : ∃ k, waveletlaw50_MetricsSums.f k a0_0 a0_1 a0_2 a0_3 l0_4 = some true := by
  have hl : l0_4.length < 1000000000000000 := by omega
  have hw : Wf l0_4 := fun x hx => wf_bd (w0_4 x hx)
  clear w0_0 w0_1 w0_2 w0_3 y0_4 w0_4
  refine Ev.ex (v := true) ?_
  have hex : Ev (fun k => (waveletlaw50_exampleHolds.f k).bind fun t => some t) true := Ev.bind example_holds (Ev.const _)
  refine Ev.bind (a := decide ((l0_4.length : Int) ≤ 400)) (Ev.const _) ?_
  by_cases f1 : (l0_4.length : Int) ≤ 400
  · refine Ev.eq (fun k => by rw [decide_eq_true f1, if_pos rfl]) (Ev.bind (hist_ev _ _ _ _ _ hl hw) ?_)
    by_cases h : VP a0_0 a0_1 a0_2 a0_3 l0_4 ∧ l0_4 ≠ []
    · by_cases h3 : hi l0_4 - lo l0_4 ≥ 65536
      · rw [show HG a0_0 a0_1 a0_2 a0_3 l0_4 = (0, [], 5) by unfold HG; rw [if_pos h, if_pos h3]]
        refine Ev.eq (fun k => by rw [if_neg (by decide), if_pos (by decide)]) ?_
        exact hex
      · have hn := h.2
        obtain ⟨l1, l2⟩ := lo_is hn
        obtain ⟨h1, h2⟩ := hi_is hn
        have b3 := l2 _ h1
        have hr : ∀ x ∈ l0_4, 0 ≤ x - lo l0_4 ∧ x - lo l0_4 < ((hi l0_4 - lo l0_4 + 1).toNat : Int) := fun x hx => by have := l2 x hx; have := h2 x hx; omega
        have ht : l0_4.foldl (hStep (lo l0_4)) (List.replicate (hi l0_4 - lo l0_4 + 1).toNat 0) = tally l0_4 (lo l0_4) (hi l0_4 - lo l0_4 + 1).toNat := by
          rw [tally_nil (lo l0_4), tally_fold (lo l0_4) _ (by omega) l0_4 [] hr (by simp; omega)]
          rfl
        have hHG : HG a0_0 a0_1 a0_2 a0_3 l0_4 = (lo l0_4, tally l0_4 (lo l0_4) (hi l0_4 - lo l0_4 + 1).toNat, 0) := by
          unfold HG
          rw [if_pos h, if_neg h3, ht]
        have hn' : l0_4.reverse ≠ [] := by simpa using hn
        have hv' : VP a0_0 a0_1 a0_2 a0_3 l0_4.reverse := by
          unfold VP at h ⊢
          rw [List.length_reverse]
          exact h.1
        have ht' : l0_4.reverse.foldl (hStep (lo l0_4)) (List.replicate (hi l0_4 - lo l0_4 + 1).toNat 0) = tally l0_4 (lo l0_4) (hi l0_4 - lo l0_4 + 1).toNat := by
          rw [tally_nil (lo l0_4), tally_fold (lo l0_4) _ (by omega) l0_4.reverse [] (fun x hx => hr x (List.mem_reverse.mp hx)) (by simp; omega)]
          unfold tally
          rw [List.nil_append]
          congr 1
          funext j
          rw [List.count_reverse]
        have hHG' : HG a0_0 a0_1 a0_2 a0_3 l0_4.reverse = (lo l0_4, tally l0_4 (lo l0_4) (hi l0_4 - lo l0_4 + 1).toNat, 0) := by
          unfold HG
          rw [if_pos ⟨hv', hn'⟩, lo_rev hn, hi_rev hn, if_neg h3, ht']
        rw [hHG]
        dsimp only
        generalize hN : (hi l0_4 - lo l0_4 + 1).toNat = n at hr ht hHG hHG' ht' ⊢
        have hlen : (tally l0_4 (lo l0_4) n).length = n := by simp [tally]
        have hsum : addUp (tally l0_4 (lo l0_4) n) = (l0_4.length : Int) := by
          rw [tally_sum, List.filter_eq_self.mpr]
          intro x hx
          have := hr x hx
          simp only [decide_eq_true_eq]
          omega
        have hget : ∀ j : Nat, j < n → rd (tally l0_4 (lo l0_4) n) (j : Int) = ((l0_4.count (lo l0_4 + (j : Int)) : Nat) : Int) := by
          intro j hj
          unfold rd tally
          rw [List.getD_eq_getElem?_getD, List.getElem?_map, show ((j : Int)).toNat = j by omega, List.getElem?_range hj]
          simp
        refine Ev.eq (fun k => by rw [if_pos rfl]) ?_
        refine sums_l0 _ _ _ _ _ _ _ _ _ _ l0_4 (by omega) true ?_ l0_4.reverse [] rfl
        refine sums_l1 _ _ (by omega) (fun x hx => ?_) (by omega) _ _ _ _ _ _ _ _ l0_4 l0_4.reverse true ?_ _ [] rfl
        · unfold tally at hx
          obtain ⟨j, _, rfl⟩ := List.mem_map.mp hx
          omega
        · refine Ev.bind (hist_ev _ _ _ _ _ (by rw [List.length_reverse]; exact hl) (fun x hx => hw x (List.mem_reverse.mp hx))) ?_
          rw [hHG']
          dsimp only
          refine Ev.eq (fun k => by rw [if_pos rfl, if_pos rfl]) (Ev.bind (ints_ev _ _ (by omega)) ?_)
          have g0 := hget 0 (by omega)
          have g1 := hget (n - 1) (by omega)
          have c0 := count_pos' l1
          have c1 := count_pos' h1
          have e0 : lo l0_4 + ((0 : Nat) : Int) = lo l0_4 := by omega
          have e1 : lo l0_4 + ((n - 1 : Nat) : Int) = hi l0_4 := by omega
          rw [e0] at g0
          rw [e1] at g1
          have e2 : wrap64 (((tally l0_4 (lo l0_4) n).length : Int) - 1) = ((n - 1 : Nat) : Int) := by rw [hlen]; unfold wrap64; omega
          refine Ev.eq (fun k => by rw [decide_eq_true rfl, if_pos rfl, if_pos hsum, if_pos (by omega), if_pos (by omega), if_pos (by rw [show (0 : Int) = ((0 : Nat) : Int) from rfl, g0]; omega), e2, if_pos (by omega), if_pos (by omega), if_pos (by rw [g1]; omega)]) ?_
          exact hex
    · rw [show HG a0_0 a0_1 a0_2 a0_3 l0_4 = (0, [], 1) by unfold HG; rw [if_neg h]]
      refine Ev.eq (fun k => by rw [if_neg (by decide), if_pos (by decide)]) ?_
      exact hex
  · refine Ev.eq (fun k => by rw [decide_eq_false f1, if_neg (by decide)]) ?_
    exact hex
end Go.Proofs.Ytfihdlekeainpaa.Pure
