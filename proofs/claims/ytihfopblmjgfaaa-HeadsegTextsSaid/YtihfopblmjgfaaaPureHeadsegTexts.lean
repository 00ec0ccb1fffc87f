/- HeadsegTexts: comments and lists of lengths are restored from their segments. No condition beside the statement's own. -/
import Derived.Test.YtihfopblmjgfaaaQ30
import Derived.Test.YtihfopblmjgfaaaPureBack
namespace Go.Proofs.Ytihfopblmjgfaaa.Pure
open Go.RowKit Go.Proofs.Ytihfopblmjgfaaa.Q Go.Proofs.YtihfopblmjgfaaaW.PrintWords
set_option linter.unusedVariables false
set_option maxRecDepth 100000
theorem bytes_back (a : ByteArray) : (strOfNums (strBytes a)).toList = a.toList := by
  have : strOfNums (strBytes a) = a := by
    cases a with
    | mk d =>
      cases d with
      | mk l =>
        simp only [strOfNums, strBytes, List.map_map]
        congr 2
        refine List.map_id'' ?_ l
        intro x
        simp
  rw [this]
theorem texts_rest (c : Int) (l : List Int) (hl : l.length ≤ 40000) : Ev (fun k => waveletlaw29_HeadsegTexts.j1 k c l) true := by
  refine Ev.step (fun k => waveletlaw29_HeadsegTexts.j1.eq_2 ..) (Ev.bind (len_ev c l hl) ?_)
  by_cases hc : c = 65445 ∨ c = 65457
  · by_cases hin : inside 0 4294967295 l = true
    · rw [show LenF c l = (segsFrom c l 0 (nseg l), 0) by unfold LenF; rw [if_neg (fun h => h hc), if_pos hin]]
      exact Ev.pos rfl (Ev.bind (back_ev c hc l hl hin) (Ev.pos rfl (Ev.bind (ev_sameInts' l (by omega)) (Ev.pos rfl (Ev.bind ev_awake (Ev.now _))))))
    · rw [show LenF c l = ([], 2) by unfold LenF; rw [if_neg (fun h => h hc), if_neg hin]]
      exact Ev.neg (by simp) (Ev.bind ev_awake (Ev.now _))
  · rw [show LenF c l = ([], 3) by unfold LenF; rw [if_pos hc]]
    exact Ev.neg (by simp) (Ev.bind ev_awake (Ev.now _))
theorem HeadsegTexts (a0 : ByteArray) (a1 : Int) (l2 : List (Int)) (w0 : a0.size ≤ 140737488351232) (w1 : (Lit.int .i64 a1).wf = true) (y2 : l2.length * 8 ≤ 140737488351232) (w2 : ∀ x ∈ l2, (Lit.int .i64 x).wf = true) : ∃ k, waveletlaw29_HeadsegTexts.f k a0 a1 l2 = some true := by
  refine Ev.rounds (Ev.congr (fun k => waveletlaw29_HeadsegTexts.f.eq_1 ..) ?_)
  have ht : Ev (fun k => waveletlaw29_HeadsegTexts.j0 k a0 a1 l2 true) true := Ev.step (fun k => waveletlaw29_HeadsegTexts.j0.eq_2 ..) (Ev.pos rfl (Ev.bind ev_awake (Ev.now _)))
  by_cases h1 : (a0.size : Int) > 70000
  · exact Ev.pos h1 ht
  refine Ev.neg h1 ?_
  by_cases h2 : (l2.length : Int) > 40000
  · rw [decide_eq_true h2]; exact ht
  rw [decide_eq_false h2]
  have hr := texts_rest a1 l2 (by omega)
  refine Ev.step (fun k => waveletlaw29_HeadsegTexts.j0.eq_2 ..) (Ev.neg (by simp) ?_)
  have hcf : headseg_Comment.f a0 = some (if (a0.size : Int) > 65533 then (0, [], 5) else (65444, strBytes a0, 0)) := by
    unfold headseg_Comment.f
    rw [if_pos (by omega)]
  rw [hcf]
  simp only [Option.bind_some]
  by_cases h3 : (a0.size : Int) > 65533
  · simp only [if_pos h3]
    exact Ev.neg (by simp) hr
  · simp only [if_neg h3]
    refine Ev.pos trivial ?_
    have hp : headseg_ParseComment.f 65444 (strBytes a0) = some (strOfNums (strBytes a0), 0) := by
      unfold headseg_ParseComment.f
      rw [if_pos rfl, if_neg (by simp [strBytes]; omega)]
    rw [hp]
    simp only [Option.bind_some]
    exact Ev.pos trivial (Ev.pos (bytes_back a0) hr)
end Go.Proofs.Ytihfopblmjgfaaa.Pure
