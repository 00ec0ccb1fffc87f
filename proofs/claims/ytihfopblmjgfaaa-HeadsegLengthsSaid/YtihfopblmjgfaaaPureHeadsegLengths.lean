/- HeadsegLengths: Lengths and ParseLengths return the defined segments, list or errors. No condition beside the statement's own. -/
import Derived.Test.YtihfopblmjgfaaaQ34
import Derived.Test.YtihfopblmjgfaaaPureLenR
namespace Go.Proofs.Ytihfopblmjgfaaa.Pure
open Go.RowKit Go.Proofs.Ytihfopblmjgfaaa.Q Go.Proofs.YtihfopblmjgfaaaW.PrintWords
set_option linter.unusedVariables false
set_option maxRecDepth 100000
theorem lengths_loop (c : Int) (l : List Int) (s : List S26) (hl : l.length ≤ 40000) (hs : s.length ≤ 10) (hw : ∀ x ∈ s, ∀ y ∈ x.f1, (Lit.int .u8 y).wf = true) (d : Nat) : ∀ (i : Nat), i + d = s.length → (∀ (j : Nat) (hj : j < s.length), j < i → s[j].f1.length ≤ 70000) → Ev (fun k => waveletlaw29_HeadsegLengths.l0 k c l s (s.length : Int) (i : Int)) true := by
  induction d with
  | zero =>
    intro i hi hg
    have hG : Good s := ⟨hs, fun x hx => by
      obtain ⟨j, hj, rfl⟩ := List.getElem_of_mem hx
      exact ⟨hg j hj (by omega), hw _ hx⟩⟩
    obtain ⟨r, hr, h1, h2⟩ := pl_both s hG
    obtain ⟨q1, q2⟩ := LenF_small c l hl
    refine Ev.step (fun k => waveletlaw29_HeadsegLengths.l0.eq_2 ..) (Ev.neg (by omega) (Ev.bind (len_ev c l hl) (Ev.bind (rlen_ev c l hl) (Ev.bind h1 (Ev.bind h2 (Ev.bind (ev_sameSegs _ (by omega) (fun x hx => by have := q2 x hx; omega)) (Ev.pos rfl (Ev.pos rfl (Ev.bind (ev_sameInts _ (by omega)) (Ev.pos rfl (Ev.pos rfl (Ev.bind ev_awake (Ev.now _)))))))))))))
  | succ d ih =>
    intro i hi hg
    have hlt : i < s.length := by omega
    refine Ev.step (fun k => waveletlaw29_HeadsegLengths.l0.eq_2 ..) (Ev.pos (by omega) (Ev.pos (by omega) (Ev.pos (by omega) ?_)))
    rw [rdT_at i hlt]
    simp only [waveletlaw29_long.f, Option.bind_some]
    by_cases h7 : (s[i].f1.length : Int) > 70000
    · exact Ev.pos (decide_eq_true h7) (Ev.bind ev_awake (Ev.now _))
    · refine Ev.neg (by simpa using h7) ?_
      rw [show wrap64 ((i : Int) + 1) = ((i + 1 : Nat) : Int) by unfold wrap64; omega]
      refine ih (i + 1) (by omega) (fun j hj hji => ?_)
      rcases Nat.lt_or_ge j i with h | h
      · exact hg j hj h
      · have : j = i := by omega
        subst this
        omega
theorem HeadsegLengths (a0 : Int) (l1 : List (Int)) (l2 : List (S26)) (w0 : (Lit.int .i64 a0).wf = true) (y1 : l1.length * 8 ≤ 140737488351232) (w1 : ∀ x ∈ l1, (Lit.int .i64 x).wf = true) (y2 : l2.length * 32 ≤ 140737488351232) (w2 : ∀ x ∈ l2, ((Lit.int .i64 x.f0).wf = true ∧ (x.f1.length * 1 ≤ 140737488351232 ∧ ∀ x_ ∈ x.f1, (Lit.int .u8 x_).wf = true))) : ∃ k, waveletlaw29_HeadsegLengths.f k a0 l1 l2 = some true := by
  refine Ev.rounds (Ev.congr (fun k => waveletlaw29_HeadsegLengths.f.eq_1 ..) ?_)
  have ht : Ev (fun k => waveletlaw29_HeadsegLengths.j0 k a0 l1 l2 true) true := Ev.step (fun k => waveletlaw29_HeadsegLengths.j0.eq_2 ..) (Ev.pos rfl (Ev.bind ev_awake (Ev.now _)))
  by_cases h1 : (l1.length : Int) > 40000
  · exact Ev.pos h1 ht
  · refine Ev.neg h1 ?_
    by_cases h2 : (l2.length : Int) > 10
    · rw [decide_eq_true h2]; exact ht
    · rw [decide_eq_false h2]
      exact Ev.step (fun k => waveletlaw29_HeadsegLengths.j0.eq_2 ..) (Ev.neg (by simp) (lengths_loop a0 l1 l2 (by omega) (by omega) (fun x hx => (w2 x hx).2.2) l2.length 0 (by omega) (fun j hj h => absurd h (by omega))))
end Go.Proofs.Ytihfopblmjgfaaa.Pure
