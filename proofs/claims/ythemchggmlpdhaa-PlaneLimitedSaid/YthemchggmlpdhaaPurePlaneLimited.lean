/- PlaneLimited: a clipped plane lies within its limits, clipping it again or by limits beyond changes nothing, and samples within the limits stay, for valid planes of at most 20 columns and rows, and the examples of the chapter hold. No condition. -/
import Derived.Test.YthemchggmlpdhaaPureClip
import Derived.Test.YthemchggmlpdhaaPureEx
import Derived.Test.YthemchggmlpdhaaPureSmall
import Derived.Test.YthemchggmlpdhaaQ49
namespace Go.Proofs.Ythemchggmlpdhaa.Pure
open Go.RowKit Go.Proofs.Ythemchggmlpdhaa.Q Go.Proofs.YthemchggmlpdhaaW.PrintWords
set_option linter.unusedVariables false
theorem fv (lo hi v : Int) (h : lo ≤ hi) : lo ≤ mn (mx v lo) hi ∧ mn (mx v lo) hi ≤ hi ∧ (lo ≤ v → v ≤ hi → mn (mx v lo) hi = v) ∧ (v < lo → mn (mx v lo) hi = lo) ∧ (v > hi → mn (mx v lo) hi = hi) := by
  have h1 := mx_spec v lo
  have h2 := mn_spec (mx v lo) hi
  omega
theorem clip_id (lo hi : Int) (l : List Int) (h : ∀ v ∈ l, lo ≤ v ∧ v ≤ hi) (h2 : lo ≤ hi) : clipL lo hi l = l := by
  unfold clipL
  have : l.map (fun v => mn (mx v lo) hi) = l.map id := List.map_congr_left (fun v hv => (fv lo hi v h2).2.2.1 (h v hv).1 (h v hv).2)
  rw [this, List.map_id]
theorem clip_mem {lo hi : Int} {l : List Int} (h2 : lo ≤ hi) {v : Int} (hv : v ∈ clipL lo hi l) : lo ≤ v ∧ v ≤ hi := by
  unfold clipL at hv
  obtain ⟨x, _, rfl⟩ := List.mem_map.1 hv
  exact ⟨(fv lo hi x h2).1, (fv lo hi x h2).2.1⟩
theorem fold_mn : ∀ (l : List Int) (s : Int), l.foldl mn s ≤ s ∧ (∀ v ∈ l, l.foldl mn s ≤ v) ∧ ∀ m, m ≤ s → (∀ v ∈ l, m ≤ v) → m ≤ l.foldl mn s
  | [], s => ⟨Int.le_refl _, by simp, fun m h _ => h⟩
  | x :: l, s => by
    obtain ⟨h1, h2, h3⟩ := fold_mn l (mn s x)
    have h := mn_spec s x
    refine ⟨?_, ?_, ?_⟩
    · show l.foldl mn (mn s x) ≤ s
      omega
    · intro v hv
      show l.foldl mn (mn s x) ≤ v
      rcases List.mem_cons.1 hv with rfl | hv
      · omega
      · exact h2 v hv
    · intro m hm hv
      show m ≤ l.foldl mn (mn s x)
      have hx := hv x (by simp)
      exact h3 m (by omega) (fun v hv' => hv v (by simp [hv']))
theorem fold_mx : ∀ (l : List Int) (s : Int), s ≤ l.foldl mx s ∧ (∀ v ∈ l, v ≤ l.foldl mx s) ∧ ∀ m, s ≤ m → (∀ v ∈ l, v ≤ m) → l.foldl mx s ≤ m
  | [], s => ⟨Int.le_refl _, by simp, fun m h _ => h⟩
  | x :: l, s => by
    obtain ⟨h1, h2, h3⟩ := fold_mx l (mx s x)
    have h := mx_spec s x
    refine ⟨?_, ?_, ?_⟩
    · show s ≤ l.foldl mx (mx s x)
      omega
    · intro v hv
      show v ≤ l.foldl mx (mx s x)
      rcases List.mem_cons.1 hv with rfl | hv
      · omega
      · exact h2 v hv
    · intro m hm hv
      show l.foldl mx (mx s x) ≤ m
      have hx := hv x (by simp)
      exact h3 m (by omega) (fun v hv' => hv v (by simp [hv']))
theorem rd_mem (l : List Int) (h : l ≠ []) : rd l 0 ∈ l := by
  cases l with
  | nil => exact absurd rfl h
  | cons x l => simp [rd]
theorem lim_end (lo hi a b c d : Int) (l : List Int) (h : VP a b c d l) (h2 : lo ≤ hi) (a' b' c' d' : Int) (h' : VP a b c d (clipL lo hi l)) : Ev (fun k => waveletlaw02_PlaneLimited.l0 k lo hi ((clipL lo hi l).length : Int) a b c d l a b c d (clipL lo hi l)) true := by
  refine Ev.step (fun k => by rw [waveletlaw02_PlaneLimited.l0, if_neg (by omega)]) ?_
  refine Ev.bind (lim_ev a b c d l) ?_
  unfold LimT
  by_cases hl : l = []
  · rw [if_neg (fun e => e.2 hl)]
    exact Ev.eq (fun k => by rw [if_neg (by decide), if_pos (by rw [hl]; rfl)]) ex_ev
  · rw [if_pos ⟨h, hl⟩]
    refine Ev.eq (fun k => if_pos rfl) ?_
    have hm := fold_mn l (rd l 0)
    have hx := fold_mx l (rd l 0)
    have hle : l.foldl mn (rd l 0) ≤ l.foldl mx (rd l 0) := Int.le_trans hm.1 hx.1
    refine Ev.bind (clip_ev a b c d l _ _) ?_
    have e1 : ClipT a b c d l (l.foldl mn (rd l 0)) (l.foldl mx (rd l 0)) = (a, b, c, d, l, 0) := by
      unfold ClipT
      rw [if_pos h, if_neg (by omega), clip_id _ _ _ (fun v hv => ⟨hm.2.1 v hv, hx.2.1 v hv⟩) hle]
    rw [e1]
    refine Ev.bind (lim_ev a b c d (clipL lo hi l)) ?_
    have hc : clipL lo hi l ≠ [] := by unfold clipL; simpa using hl
    have e2 : LimT a b c d (clipL lo hi l) = ((clipL lo hi l).foldl mn (rd (clipL lo hi l) 0), (clipL lo hi l).foldl mx (rd (clipL lo hi l) 0), true) := by
      unfold LimT
      rw [if_pos ⟨h', hc⟩]
    rw [e2]
    have h0 := clip_mem h2 (rd_mem _ hc)
    have g1 := (fold_mn (clipL lo hi l) (rd (clipL lo hi l) 0)).2.2 lo h0.1 (fun v hv => (clip_mem h2 hv).1)
    have g2 := (fold_mx (clipL lo hi l) (rd (clipL lo hi l) 0)).2.2 hi h0.2 (fun v hv => (clip_mem h2 hv).2)
    refine Ev.eq (fun k => if_pos rfl) ?_
    have h1 := vp_len h
    refine Ev.bind (rsame_ev _ _ _ _ _ _ _ _ _ _ (by show l.length < _; omega)) ?_
    rw [SM_refl]
    exact Ev.eq (fun k => by rw [if_pos rfl, if_pos rfl, if_pos g1, if_pos g2]) ex_ev
theorem lim_loop (lo hi a b c d : Int) (l : List Int) (h : VP a b c d l) (h2 : lo ≤ hi) (h' : VP a b c d (clipL lo hi l)) : ∀ post pre, l = pre ++ post →
    Ev (fun k => waveletlaw02_PlaneLimited.l0 k lo hi (pre.length : Int) a b c d l a b c d (clipL lo hi l)) true := by
  have h1 := vp_len h
  have hcl : (clipL lo hi l).length = l.length := by unfold clipL; rw [List.length_map]
  intro post
  induction post with
  | nil =>
    intro pre hp
    rw [List.append_nil] at hp
    subst hp
    have e := lim_end lo hi a b c d l h h2 0 0 0 0 h'
    rw [hcl] at e
    exact e
  | cons x post ih =>
    intro pre hp
    have hx : rd l (pre.length : Int) = x := by rw [hp]; exact rd_at _ _ _
    have hy : rd (clipL lo hi l) (pre.length : Int) = mn (mx x lo) hi := by
      have e : clipL lo hi l = clipL lo hi pre ++ mn (mx x lo) hi :: clipL lo hi post := by rw [hp]; simp [clipL]
      have hpl : (clipL lo hi pre).length = pre.length := by unfold clipL; rw [List.length_map]
      rw [e, ← hpl]
      exact rd_at _ _ _
    have l1 : (pre.length : Int) < (l.length : Int) := by rw [hp]; exact in_app _ _ _
    have hs : wrap64 ((pre.length : Int) + 1) = ((pre ++ [x]).length : Int) := nx pre x (by omega)
    have f := fv lo hi x h2
    refine Ev.step (fun k => ?_) (ih (pre ++ [x]) (by simp [hp]))
    rw [waveletlaw02_PlaneLimited.l0, if_pos (by omega), if_pos (by omega), if_pos l1, hx, hy, if_neg (by omega), if_neg (by omega), hs]
    by_cases k1 : lo ≤ x
    · rw [if_pos k1]
      by_cases k2 : x ≤ hi
      · rw [if_pos k2, if_pos (f.2.2.1 k1 k2), if_neg (by omega), if_neg (by omega)]
      · rw [if_neg k2, if_neg (by omega), if_pos (by omega), if_pos (f.2.2.2.2 (by omega))]
    · rw [if_neg k1, if_pos (by omega), if_pos (f.2.2.2.1 (by omega)), if_neg (by omega)]
theorem PlaneLimited (a0_0 : Int) (a0_1 : Int) (a0_2 : Int) (a0_3 : Int) (l0_4 : List (Int)) (a1 : Int) (a2 : Int) (w0_0 : (Lit.int .i64 a0_0).wf = true) (w0_1 : (Lit.int .i64 a0_1).wf = true) (w0_2 : (Lit.int .i64 a0_2).wf = true) (w0_3 : (Lit.int .i64 a0_3).wf = true) (y0_4 : l0_4.length * 8 ≤ 140737488351232) (w0_4 : ∀ x ∈ l0_4, (Lit.int .i64 x).wf = true) (w1 : (Lit.int .i64 a1).wf = true) (w2 : (Lit.int .i64 a2).wf = true) : ∃ k, waveletlaw02_PlaneLimited.f k a0_0 a0_1 a0_2 a0_3 l0_4 a1 a2 = some true := by
  refine Ev.ex ?_
  obtain ⟨t, ht, hv⟩ := vs a0_0 a0_1 a0_2 a0_3 l0_4
  refine Ev.eq (fun k => by rw [waveletlaw02_PlaneLimited.f, ht, Option.bind_some]) ?_
  have hex : ∀ x1 x2 a b c d l, Ev (fun k => waveletlaw02_PlaneLimited.j0 k x1 x2 true a b c d l) true := fun x1 x2 a b c d l => Ev.step (fun k => by rw [waveletlaw02_PlaneLimited.j0, if_pos rfl]) ex_ev
  cases t with
  | false => exact Ev.eq (fun k => if_neg (by decide)) (hex _ _ _ _ _ _ _)
  | true =>
    have h := hv rfl
    have h1 := vp_len h
    refine Ev.eq (fun k => if_pos rfl) ?_
    by_cases h2 : a1 > a2
    · rw [decide_eq_true h2]
      exact hex _ _ _ _ _ _ _
    · rw [decide_eq_false h2]
      have hle : a1 ≤ a2 := by omega
      have hcl : (clipL a1 a2 l0_4).length = l0_4.length := by unfold clipL; rw [List.length_map]
      have h' : VP a0_0 a0_1 a0_2 a0_3 (clipL a1 a2 l0_4) := ⟨h.1, h.2.1, by rw [hcl]; exact h.2.2⟩
      have e1 : ClipT a0_0 a0_1 a0_2 a0_3 l0_4 a1 a2 = (a0_0, a0_1, a0_2, a0_3, clipL a1 a2 l0_4, 0) := by
        unfold ClipT
        rw [if_pos h, if_neg h2]
      have e2 : ClipT a0_0 a0_1 a0_2 a0_3 (clipL a1 a2 l0_4) a1 a2 = (a0_0, a0_1, a0_2, a0_3, clipL a1 a2 l0_4, 0) := by
        unfold ClipT
        rw [if_pos h', if_neg h2, clip_id _ _ _ (fun v hv => clip_mem hle hv) hle]
      refine Ev.step (fun k => by rw [waveletlaw02_PlaneLimited.j0, if_neg (by decide)]) ?_
      refine Ev.bind (clip_ev _ _ _ _ _ _ _) ?_
      rw [e1]
      refine Ev.bind (clip_ev _ _ _ _ _ _ _) ?_
      rw [e2]
      refine Ev.eq (fun k => by rw [if_pos rfl, if_pos rfl]) ?_
      refine Ev.bind (rsame_ev _ _ _ _ _ _ _ _ _ _ (by show (clipL a1 a2 l0_4).length < _; omega)) ?_
      rw [SM_refl]
      refine Ev.eq (fun k => by rw [if_pos rfl, if_neg (by simp)]) ?_
      refine Ev.step (fun k => by rw [waveletlaw02_PlaneLimited.j1, if_neg (by simp [hcl])]) ?_
      exact lim_loop a1 a2 _ _ _ _ l0_4 h hle h' l0_4 [] rfl
end Go.Proofs.Ythemchggmlpdhaa.Pure
