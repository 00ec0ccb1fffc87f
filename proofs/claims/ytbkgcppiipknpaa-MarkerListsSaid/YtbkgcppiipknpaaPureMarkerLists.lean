/- MarkerLists: All of the bytes of at most 20 segments with payloads of at most 500 bytes and known codes other than Tile, Data and End, followed by the marker End and at most 100 bytes, returns the segments and the offset of End; the examples of the chapter hold. No condition. -/
import Derived.Test.YtbkgcppiipknpaaPureLists
import Derived.Test.YtbkgcppiipknpaaQ26
namespace Go.Proofs.Ytbkgcppiipknpaa.Pure
open Go.RowKit Go.Proofs.Ytbkgcppiipknpaa.Q Go.Proofs.YtbkgcppiipknpaaW.PrintWords
set_option linter.unusedVariables false
theorem ex_ev : Ev (fun k => waveletlaw28_exampleHolds.f k) true := Ev.at waveletlaw28_exampleHolds.mono example_holds
theorem ex_ev2 : Ev (fun k => (waveletlaw28_exampleHolds.f k).bind fun t => (some t)) true := Ev.bind ex_ev (Ev.const true)
theorem append_ev (b : List Int) (c : Int) (p : List Int) (hb : b.length ≤ 100000) (hp : p.length ≤ 100000) : Ev (fun k => marker_Append.f k b c p) (App b c p) := by
  refine ⟨1, fun k hk => ?_⟩
  obtain ⟨j, rfl⟩ : ∃ j, k = j + 1 := ⟨k - 1, by omega⟩
  exact append_eq b c p hb hp j
theorem all_ev (F : List Int) (hF : Bytes F) (hl : F.length ≤ 1000000) : Ev (fun k => marker_All.f k F 0) (AL F (F.length + 1) 0 []) := by
  refine ⟨7 + F.length, fun k hk => ?_⟩
  obtain ⟨j, rfl⟩ : ∃ j, k = j + 7 + F.length := ⟨k - 7 - F.length, by omega⟩
  show marker_All.l0 (j + 7 + F.length) F 0 [] = _
  exact all_eq F hF hl F.length j 0 [] (by omega) (Or.inr (by omega)) (by simp; omega)
theorem segs_ev (g : List S26) (hg : g.length ≤ 100000) : Ev (fun k => waveletref28_SameSegments.f k g g) true := by
  refine ⟨g.length + 1, fun k hk => ?_⟩
  obtain ⟨j, rfl⟩ : ∃ j, k = j + g.length + 1 := ⟨k - g.length - 1, by omega⟩
  show waveletref28_SameSegments.f _ g g = _
  rw [waveletref28_SameSegments.f, if_pos rfl]
  exact segs_self g hg g.length j 0 (by omega)
theorem rdT_at (pre post : List S26) (x : S26) : rd_T26 (pre ++ x :: post) (pre.length : Int) = x := by simp [rd_T26, List.getD]
theorem app_len (b : List Int) (c : Int) (p : List Int) (h : (App b c p).2 = 0) : b.length + 2 ≤ (App b c p).1.length ∧ (App b c p).1.length ≤ b.length + 4 + p.length := by
  unfold App at h ⊢
  repeat' split
  all_goals first | (simp_all; done) | (simp [two]; omega) | simp [two]
theorem two_bytes (n : Int) : Bytes (two n) := by
  intro x hx
  unfold two at hx
  simp at hx
  omega
theorem app_bytes (b : List Int) (c : Int) (p : List Int) (hb : Bytes b) (hp : Bytes p) : Bytes (App b c p).1 := by
  have h1 := two_bytes c
  have h2 := two_bytes (p.length + 2)
  unfold App
  intro x
  repeat' split
  · simp
  · simp
  · simp
  · intro hx
    rcases List.mem_append.1 hx with hx | hx
    · exact hb x hx
    · exact h1 x hx
  · intro hx
    rcases List.mem_append.1 hx with hx | hx
    · rcases List.mem_append.1 hx with hx | hx
      · rcases List.mem_append.1 hx with hx | hx
        · exact hb x hx
        · exact h1 x hx
      · exact h2 x hx
    · exact hp x hx
theorem lists_l0 (l : List S26) (hl : l.length ≤ 20) (hlb : ∀ s ∈ l, Bytes s.f1) (after : List Int) (ha : after.length ≤ 100) (hab : Bytes after) : ∀ post pre b g, l = pre ++ post → Holds b g → Bytes b → b.length ≤ pre.length * 504 → g.length ≤ b.length →
    Ev (fun k => waveletlaw28_MarkerLists.l0 k after b g l (l.length : Int) (pre.length : Int)) true := by
  intro post
  induction post with
  | nil =>
    intro pre b g h hg hb hbl hgl
    rw [List.append_nil] at h
    subst h
    have he : (App b 65455 []).2 = 0 := by
      unfold App
      rw [if_neg (by unfold Kn; omega), if_neg (by simp), if_neg (by simp), if_pos (by unfold Ba; omega)]
    have hlen := app_len b 65455 [] he
    have hFl : ((App b 65455 []).1 ++ after).length = (App b 65455 []).1.length + after.length := List.length_append
    simp only [List.length_nil] at hlen
    have hF : Bytes ((App b 65455 []).1 ++ after) := by
      intro x hx
      rcases List.mem_append.1 hx with hx | hx
      · exact app_bytes b 65455 [] hb (by intro x hx; simp at hx) x hx
      · exact hab x hx
    have hAL := holds_end b g hg after he (((App b 65455 []).1 ++ after).length + 1) (by omega)
    refine Ev.step (fun k => by rw [waveletlaw28_MarkerLists.l0, if_neg (by omega)]) ?_
    refine Ev.bind (append_ev b 65455 [] (by omega) (by simp)) ?_
    have hlt : (App b 65455 []).1.length + after.length < 140737488355328 := by omega
    refine Ev.eq (fun k => if_pos hlt) ?_
    refine Ev.bind (all_ev _ hF (by omega)) ?_
    rw [hAL]
    refine Ev.eq (fun k => by rw [if_pos he]) ?_
    refine Ev.bind (segs_ev g (by omega)) ?_
    exact Ev.eq (fun k => by rw [if_pos rfl, if_pos rfl, if_pos rfl]) ex_ev2
  | cons s post ih =>
    intro pre b g h hg hb hbl hgl
    have hx : rd_T26 l (pre.length : Int) = s := by rw [h]; exact rdT_at _ _ _
    have l1 : (pre.length : Int) < (l.length : Int) := by rw [h]; exact in_app _ _ _
    have hs : wrap64 ((pre.length : Int) + 1) = ((pre ++ [s]).length : Int) := nx pre s (by omega)
    have hsb : Bytes s.f1 := hlb s (by rw [h]; simp)
    have hpl : (pre ++ [s]).length = pre.length + 1 := by simp
    have stay := ih (pre ++ [s]) b g (by simp [h]) hg hb (by rw [hpl, Nat.succ_mul]; exact Nat.le_trans hbl (Nat.le_add_right _ _)) hgl
    by_cases h5 : (s.f1.length : Int) > 500
    · exact Ev.step (fun k => by rw [waveletlaw28_MarkerLists.l0, if_pos l1, if_pos (by omega), if_pos l1, hx, if_pos h5]) ex_ev2
    · refine Ev.step (fun k => by rw [waveletlaw28_MarkerLists.l0, if_pos l1, if_pos (by omega), if_pos l1, hx, if_neg h5, hs]) ?_
      refine Ev.bind (append_ev b s.f0 s.f1 (by omega) (by omega)) ?_
      by_cases he : (App b s.f0 s.f1).2 = 0
      · refine Ev.eq (fun k => by rw [if_pos he]) ?_
        by_cases k1 : s.f0 = 65456
        · exact Ev.eq (fun k => by rw [if_pos k1]) stay
        · refine Ev.eq (fun k => by rw [if_neg k1]) ?_
          by_cases k2 : s.f0 = 65458
          · exact Ev.eq (fun k => by rw [if_pos k2]) stay
          · refine Ev.eq (fun k => by rw [if_neg k2]) ?_
            by_cases k3 : s.f0 = 65455
            · exact Ev.eq (fun k => by rw [if_pos k3]) stay
            · have hlen := app_len b s.f0 s.f1 he
              refine Ev.eq (fun k => by rw [if_neg k3, if_pos (by omega)]) ?_
              exact ih (pre ++ [s]) _ _ (by simp [h]) (holds_snoc b g hg s he ⟨k1, k2, k3⟩) (app_bytes b s.f0 s.f1 hb hsb) (by rw [hpl, Nat.succ_mul]; exact Nat.le_trans hlen.2 (by omega)) (by rw [List.length_append, List.length_singleton]; omega)
      · exact Ev.eq (fun k => by rw [if_neg he]) stay
theorem MarkerLists (l0 : List (S26)) (l1 : List (Int)) (y0 : l0.length * 32 ≤ 140737488351232) (w0 : ∀ x ∈ l0, ((Lit.int .i64 x.f0).wf = true ∧ (x.f1.length * 1 ≤ 140737488351232 ∧ ∀ x_ ∈ x.f1, (Lit.int .u8 x_).wf = true))) (y1 : l1.length * 1 ≤ 140737488351232) (w1 : ∀ x ∈ l1, (Lit.int .u8 x).wf = true) : ∃ k, waveletlaw28_MarkerLists.f k l0 l1 = some true := by
  refine Ev.ex ?_
  have hb1 : Bytes l1 := fun x hx => wf_u8 (w1 x hx)
  have hlb : ∀ s ∈ l0, Bytes s.f1 := fun s hs x hx => wf_u8 ((w0 s hs).2.2 x hx)
  have hj : Ev (fun k => waveletlaw28_MarkerLists.j0 k l0 l1 true) true := Ev.step (fun k => by rw [waveletlaw28_MarkerLists.j0, if_pos rfl]) ex_ev2
  by_cases h1 : (l0.length : Int) > 20
  · exact Ev.eq (fun k => by rw [waveletlaw28_MarkerLists.f, if_pos h1]) hj
  · by_cases h2 : (l1.length : Int) > 100
    · exact Ev.eq (fun k => by rw [waveletlaw28_MarkerLists.f, if_neg h1, decide_eq_true h2]) hj
    · refine Ev.eq (fun k => by rw [waveletlaw28_MarkerLists.f, if_neg h1, decide_eq_false h2]) ?_
      refine Ev.step (fun k => by rw [waveletlaw28_MarkerLists.j0, if_neg (by decide)]) ?_
      have := lists_l0 l0 (by omega) hlb l1 (by omega) hb1 l0 [] [] [] rfl holds_nil (by intro x hx; simp at hx) (by simp) (by simp)
      exact this
end Go.Proofs.Ytbkgcppiipknpaa.Pure
