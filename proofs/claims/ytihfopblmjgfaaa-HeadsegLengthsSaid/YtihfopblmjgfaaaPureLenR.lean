/- The reference's Lengths; ParseLengths of both; comparisons of lists. -/
import Derived.Test.YtihfopblmjgfaaaPureLen
import Derived.Test.YtihfopblmjgfaaaQ28
import Derived.Test.YtihfopblmjgfaaaQ29
import Derived.Test.YtihfopblmjgfaaaQ31
import Derived.Test.YtihfopblmjgfaaaQ32
import Derived.Test.YtihfopblmjgfaaaQ33
namespace Go.Proofs.Ytihfopblmjgfaaa.Pure
open Go.RowKit Go.Proofs.Ytihfopblmjgfaaa.Q Go.Proofs.YtihfopblmjgfaaaW.PrintWords
set_option linter.unusedVariables false
set_option maxRecDepth 100000

theorem rlen_within (c : Int) (l : List Int) (hl : l.length ≤ 40000) {R : List S26 × Int} (h : Ev (fun k => waveletref29_Lengths.l1 k c l [] 0) R) (d : Nat) : ∀ i, i + d = l.length → Ev (fun k => waveletref29_Lengths.l0 k c l (i : Int)) (if inside 0 4294967295 (l.drop i) then R else ([], 2)) := by
  induction d with
  | zero =>
    intro i hi
    rw [List.drop_eq_nil_of_le (by omega)]
    exact Ev.step (fun k => waveletref29_Lengths.l0.eq_2 ..) (Ev.neg (by omega) h)
  | succ d ih =>
    intro i hi
    have hlt : i < l.length := by omega
    refine Ev.step (fun k => waveletref29_Lengths.l0.eq_2 ..) (Ev.pos (by omega) (Ev.pos (by omega) ?_))
    rw [rin_eq, rd_at i hlt, List.drop_eq_getElem_cons hlt, show wrap64 ((i : Int) + 1) = ((i + 1 : Nat) : Int) by unfold wrap64; omega]
    simp only [Option.bind_some]
    have := ih (i + 1) (by omega)
    unfold inside at this ⊢
    rw [List.all_cons]
    by_cases hc : (decide (0 ≤ l[i]) && decide (l[i] ≤ 4294967295)) = true
    · rw [hc, Bool.true_and]
      exact Ev.pos rfl this
    · rw [Bool.eq_false_iff.mpr hc, Bool.false_and]
      refine Ev.neg (by simp) ?_
      simpa using Ev.now (([], 2) : List S26 × Int)
theorem rlen_inner {R : List S26 × Int} (c : Int) (l : List Int) (hl : l.length ≤ 40000) (acc : List S26) (i : Nat) (hi3 : i ≤ 3) (hacc : acc.length ≤ 1000) (d : Nat) : ∀ (j : Nat) (x9 : List Int), j + d = (chunk l i).length → x9.length ≤ 4 * j + 1 →
    Ev (fun k => waveletref29_Lengths.l1 k c l (acc ++ [(⟨c, x9 ++ enc4 ((chunk l i).drop j)⟩ : S26)]) (wrap64 (((16000 * i : Nat) : Int) + 16000))) R → Ev (fun k => waveletref29_Lengths.l2 k c l acc ((16000 * i : Nat) : Int) x9 ((16000 * i + j : Nat) : Int)) R := by
  have hcl : (chunk l i).length = min 16000 (l.length - 16000 * i) := by unfold chunk; rw [List.length_take, List.length_drop]
  have hw : wrap64 (((16000 * i : Nat) : Int) + 16000) = ((16000 * i : Nat) : Int) + 16000 := by unfold wrap64; omega
  induction d with
  | zero =>
    intro j x9 hj hx h
    rw [List.drop_eq_nil_of_le (by omega)] at h
    refine Ev.step (fun k => waveletref29_Lengths.l2.eq_2 ..) ?_
    by_cases h1 : ((16000 * i + j : Nat) : Int) < (l.length : Int)
    · exact Ev.pos h1 (Ev.neg (by rw [hw]; omega) (Ev.pos (by omega) (by simpa [enc4] using h)))
    · exact Ev.neg h1 (Ev.pos (by omega) (by simpa [enc4] using h))
  | succ d ih =>
    intro j x9 hj hx h
    have hlt : j < (chunk l i).length := by omega
    have hg : (chunk l i)[j] = l[16000 * i + j]'(by omega) := by simp only [chunk, List.getElem_take, List.getElem_drop]
    refine Ev.step (fun k => waveletref29_Lengths.l2.eq_2 ..) (Ev.pos (by omega) (Ev.pos (by rw [hw]; omega) (Ev.pos (by omega) (Ev.bind (ev_rput x9 _ 4 (by omega) (by omega)) ?_))))
    rw [show wrap64 (((16000 * i + j : Nat) : Int) + 1) = ((16000 * i + (j + 1) : Nat) : Int) by unfold wrap64; omega]
    refine ih (j + 1) _ (by omega) (by simp [be_length]; omega) ?_
    rw [List.drop_eq_getElem_cons hlt] at h
    rw [rd_at (16000 * i + j) (by omega), ← hg]
    simpa [enc4] using h
theorem rlen_outer (c : Int) (l : List Int) (hl : l.length ≤ 40000) (d : Nat) : ∀ (i : Nat) (acc : List S26), i + d = nseg l → acc.length ≤ i → Ev (fun k => waveletref29_Lengths.l1 k c l acc ((16000 * i : Nat) : Int)) (acc ++ segsFrom c l i d, 0) := by
  have hn : nseg l ≤ 3 := by unfold nseg; omega
  induction d with
  | zero =>
    intro i acc hi ha
    have h1 : 1 ≤ i ∧ l.length ≤ 16000 * i := by unfold nseg at hi; omega
    refine Ev.step (fun k => waveletref29_Lengths.l1.eq_2 ..) (Ev.neg (by omega) (Ev.step (fun k => waveletref29_Lengths.j3.eq_2 ..) (Ev.neg ?_ ?_)))
    · simp; omega
    · simpa [segsFrom] using Ev.now (acc, (0 : Int))
  | succ d ih =>
    intro i acc hi ha
    have h1 : i = 0 ∨ 16000 * i < l.length := by unfold nseg at hi; omega
    have key : Ev (fun k => waveletref29_Lengths.j3 k c l acc ((16000 * i : Nat) : Int) true) (acc ++ segsFrom c l i (d + 1), 0) := by
      refine Ev.step (fun k => waveletref29_Lengths.j3.eq_2 ..) (Ev.pos rfl (Ev.bind (ev_rput [] _ 1 (by omega) (by simp)) ?_))
      have hd : be (wrap64 (Int.tdiv ((16000 * i : Nat) : Int) 16000)) 1 = [(i : Int) % 256] := by
        rw [show Int.tdiv ((16000 * i : Nat) : Int) 16000 = (i : Int) by rw [Int.tdiv_eq_ediv_of_nonneg (by omega)]; omega]
        rw [show wrap64 (i : Int) = (i : Int) by unfold wrap64; omega]
        simp [be]
      rw [hd]
      refine rlen_inner c l hl acc i (by omega) (by omega) (chunk l i).length 0 _ (by omega) (by simp) ?_
      rw [show wrap64 (((16000 * i : Nat) : Int) + 16000) = ((16000 * (i + 1) : Nat) : Int) by unfold wrap64; omega]
      have := ih (i + 1) (acc ++ [segAt c l i]) (by omega) (by simp; omega)
      simpa [segsFrom, segAt] using this
    refine Ev.step (fun k => waveletref29_Lengths.l1.eq_2 ..) ?_
    by_cases h0 : i = 0
    · subst h0
      exact Ev.pos (by omega) key
    · refine Ev.neg (by omega) ?_
      rw [decide_eq_true (show ((16000 * i : Nat) : Int) < (l.length : Int) by omega)]
      exact key
theorem rlen_ev (c : Int) (l : List Int) (hl : l.length ≤ 40000) : Ev (fun k => waveletref29_Lengths.f k c l) (LenF c l) := by
  have hj : Ev (fun k => waveletref29_Lengths.j0 k c l true) ([], 3) := Ev.step (fun k => waveletref29_Lengths.j0.eq_2 ..) (Ev.pos rfl (Ev.now _))
  have hk : Ev (fun k => waveletref29_Lengths.j0 k c l false) (if inside 0 4294967295 l then (segsFrom c l 0 (nseg l), 0) else ([], 2)) := by
    refine Ev.step (fun k => waveletref29_Lengths.j0.eq_2 ..) (Ev.neg (by simp) (Ev.neg (by omega) ?_))
    have h0 : Ev (fun k => waveletref29_Lengths.l1 k c l [] 0) (segsFrom c l 0 (nseg l), 0) := by have := rlen_outer c l hl (nseg l) 0 [] (by omega) (by simp); simpa using this
    have := rlen_within c l hl h0 l.length 0 (by omega)
    simpa using this
  unfold LenF
  refine Ev.congr (fun k => waveletref29_Lengths.f.eq_1 ..) ?_
  by_cases h1 : c = 65445
  · rw [if_neg (fun h => h (.inl h1))]
    exact Ev.pos h1 hk
  · refine Ev.neg h1 ?_
    by_cases h2 : c = 65457
    · rw [if_neg (fun h => h (.inr h2)), show (c != 65457) = false by simp [h2]]
      exact hk
    · rw [if_pos (by omega), show (c != 65457) = true by simp [h2]]
      exact hj

/-! ### ParseLengths: both the same -/
def Good (s : List S26) : Prop := s.length ≤ 10 ∧ ∀ x ∈ s, x.f1.length ≤ 70000 ∧ ∀ y ∈ x.f1, (Lit.int .u8 y).wf = true
theorem rdT_at {s : List S26} (i : Nat) (hi : i < s.length) : rd_T26 s (i : Int) = s[i] := by
  unfold rd_T26
  rw [Int.toNat_natCast, List.getD_eq_getElem?_getD, List.getElem?_eq_getElem hi]
  rfl
/-- Both come to the same. -/
def Both (f g : Nat → Option (List Int × Int)) : Prop := ∃ r, r.1.length ≤ 1000000 ∧ Ev f r ∧ Ev g r
theorem pl_inner (s : List S26) (i : Nat) (b : List Int) (hb : ∀ y ∈ b, (Lit.int .u8 y).wf = true) (hl : b.length ≤ 70000) (c : Int) (hi : i < 100)
    (next : ∀ acc : List Int, acc.length ≤ 70000 * (i + 1) → Both (fun k => headseg_ParseLengths.l1 k s acc s (s.length : Int) ((i + 1 : Nat) : Int)) (fun k => waveletref29_ParseLengths.l1 k s acc ((i + 1 : Nat) : Int))) (hm : b.length % 4 = 1) (d : Nat) :
    ∀ (j : Nat) (acc : List Int), 4 * j + 1 + 4 * d = b.length → acc.length + d ≤ 70000 * (i + 1) → Both (fun k => headseg_ParseLengths.l2 k s acc (b.length : Int) ((4 * j + 1 : Nat) : Int) s (s.length : Int) (i : Int) c b) (fun k => waveletref29_ParseLengths.l2 k s acc (i : Int) b ((4 * j + 1 : Nat) : Int)) := by
  have hw : wrap64 ((i : Int) + 1) = ((i + 1 : Nat) : Int) := by unfold wrap64; omega
  induction d with
  | zero =>
    intro j acc hj ha
    obtain ⟨r, hr, h1, h2⟩ := next acc (by omega)
    refine ⟨r, hr, Ev.step (fun k => headseg_ParseLengths.l2.eq_2 ..) (Ev.neg (by omega) ?_), Ev.step (fun k => waveletref29_ParseLengths.l2.eq_2 ..) (Ev.neg (by omega) ?_)⟩
    · rw [hw]; exact h1
    · rw [hw]; exact h2
  | succ d ih =>
    intro j acc hj ha
    have hru : RU b ((4 * j + 1 : Nat) : Int) 4 = (num (sub b (4 * j + 1) 4), 0) := RU_in b (4 * j + 1) 4 (by omega) (by omega) (by omega)
    have hw2 : wrap64 (((4 * j + 1 : Nat) : Int) + 4) = ((4 * (j + 1) + 1 : Nat) : Int) := by unfold wrap64; omega
    obtain ⟨r, hr, h1, h2⟩ := ih (j + 1) (acc ++ [num (sub b (4 * j + 1) 4)]) (by omega) (by simp; omega)
    refine ⟨r, hr, Ev.step (fun k => headseg_ParseLengths.l2.eq_2 ..) (Ev.pos (by omega) (Ev.bind (ev_ru b _ 4 (by omega) (by omega)) ?_)), Ev.step (fun k => waveletref29_ParseLengths.l2.eq_2 ..) (Ev.pos (by omega) (Ev.bind (ev_get hb (by omega) (4 * j + 1) 4 (by omega) (by omega)) ?_))⟩
    · rw [hru, hw2]
      exact Ev.pos (by omega) h1
    · rw [hw2]
      exact Ev.pos (by omega) h2
theorem pl_outer (s : List S26) (hs : Good s) (d : Nat) : ∀ (i : Nat) (acc : List Int), i + d = s.length → acc.length ≤ 70000 * i → Both (fun k => headseg_ParseLengths.l1 k s acc s (s.length : Int) (i : Int)) (fun k => waveletref29_ParseLengths.l1 k s acc (i : Int)) := by
  have h10 := hs.1
  induction d with
  | zero =>
    intro i acc hi ha
    exact ⟨(acc, 0), by simp; omega, Ev.step (fun k => headseg_ParseLengths.l1.eq_2 ..) (Ev.neg (by omega) (Ev.now _)), Ev.step (fun k => waveletref29_ParseLengths.l1.eq_2 ..) (Ev.neg (by omega) (Ev.now _))⟩
  | succ d ih =>
    intro i acc hi ha
    have hlt : i < s.length := by omega
    obtain ⟨hbl, hbb⟩ := hs.2 s[i] (List.getElem_mem hlt)
    have hrt := rdT_at i hlt
    have next := fun acc => ih (i + 1) acc (by omega)
    have hf : ∀ c, Both (fun k => headseg_ParseLengths.j3 k s acc (s[i].f1.length : Int) s (s.length : Int) (i : Int) true c s[i].f1) (fun k => waveletref29_ParseLengths.j3 k s acc (i : Int) s[i].f1 true) := fun c =>
      ⟨([], 8), by simp, Ev.step (fun k => headseg_ParseLengths.j3.eq_2 ..) (Ev.pos rfl (Ev.now _)), Ev.step (fun k => waveletref29_ParseLengths.j3.eq_2 ..) (Ev.pos rfl (Ev.now _))⟩
    have hg : s[i].f1.length % 4 = 1 → ∀ (c : Int) (x : Bool), Both (fun k => headseg_ParseLengths.j3 k s acc (s[i].f1.length : Int) s (s.length : Int) (i : Int) x c s[i].f1) (fun k => waveletref29_ParseLengths.j3 k s acc (i : Int) s[i].f1 x) := fun hm c x => by
      cases x with
      | true => exact hf c
      | false =>
        have h4 : 1 + 4 * (s[i].f1.length / 4) = s[i].f1.length := by omega
        obtain ⟨r, hr, h1, h2⟩ := pl_inner s i s[i].f1 hbb hbl c (by omega) next hm (s[i].f1.length / 4) 0 acc (by omega) (by omega)
        exact ⟨r, hr, Ev.step (fun k => headseg_ParseLengths.j3.eq_2 ..) (Ev.neg (by simp) h1), Ev.step (fun k => waveletref29_ParseLengths.j3.eq_2 ..) (Ev.neg (by simp) h2)⟩
    suffices hh : Both (fun k => if ((s[i].f1.length : Int) % 4) = 1 then (if 0 < (s[i].f1.length : Int) then (if (wrap64 (rd s[i].f1 0)) = (i : Int) then (if (s[i].f1.length : Int) > 64001 then (headseg_ParseLengths.j3 k s acc (s[i].f1.length : Int) s (s.length : Int) (i : Int) true s[i].f0 s[i].f1) else (if (i : Int) < (wrap64 ((s.length : Int) - 1)) then (if (s[i].f1.length : Int) = 64001 then (if (i : Int) > 0 then (headseg_ParseLengths.j3 k s acc (s[i].f1.length : Int) s (s.length : Int) (i : Int) ((s[i].f1.length : Int) == 1) s[i].f0 s[i].f1) else (headseg_ParseLengths.j3 k s acc (s[i].f1.length : Int) s (s.length : Int) (i : Int) false s[i].f0 s[i].f1)) else (headseg_ParseLengths.j3 k s acc (s[i].f1.length : Int) s (s.length : Int) (i : Int) true s[i].f0 s[i].f1)) else (if (i : Int) > 0 then (headseg_ParseLengths.j3 k s acc (s[i].f1.length : Int) s (s.length : Int) (i : Int) ((s[i].f1.length : Int) == 1) s[i].f0 s[i].f1) else (headseg_ParseLengths.j3 k s acc (s[i].f1.length : Int) s (s.length : Int) (i : Int) false s[i].f0 s[i].f1)))) else (headseg_ParseLengths.j3 k s acc (s[i].f1.length : Int) s (s.length : Int) (i : Int) true s[i].f0 s[i].f1)) else (none)) else (headseg_ParseLengths.j3 k s acc (s[i].f1.length : Int) s (s.length : Int) (i : Int) true s[i].f0 s[i].f1))
      (fun k => if ((s[i].f1.length : Int) % 4) = 1 then (if 0 < (s[i].f1.length : Int) then (if (wrap64 (rd s[i].f1 0)) = (i : Int) then (if (s[i].f1.length : Int) > 64001 then (waveletref29_ParseLengths.j3 k s acc (i : Int) s[i].f1 true) else (if (i : Int) < (wrap64 ((s.length : Int) - 1)) then (if (s[i].f1.length : Int) = 64001 then (if (i : Int) > 0 then (waveletref29_ParseLengths.j3 k s acc (i : Int) s[i].f1 ((s[i].f1.length : Int) == 1)) else (waveletref29_ParseLengths.j3 k s acc (i : Int) s[i].f1 false)) else (waveletref29_ParseLengths.j3 k s acc (i : Int) s[i].f1 true)) else (if (i : Int) > 0 then (waveletref29_ParseLengths.j3 k s acc (i : Int) s[i].f1 ((s[i].f1.length : Int) == 1)) else (waveletref29_ParseLengths.j3 k s acc (i : Int) s[i].f1 false)))) else (waveletref29_ParseLengths.j3 k s acc (i : Int) s[i].f1 true)) else (none)) else (waveletref29_ParseLengths.j3 k s acc (i : Int) s[i].f1 true)) by
      obtain ⟨r, hr, h1, h2⟩ := hh
      refine ⟨r, hr, Ev.step (fun k => headseg_ParseLengths.l1.eq_2 ..) (Ev.pos (by omega) (Ev.pos (by omega) (Ev.pos (by omega) ?_))), Ev.step (fun k => waveletref29_ParseLengths.l1.eq_2 ..) (Ev.pos (by omega) (Ev.pos (by omega) ?_))⟩
      · rw [hrt]; exact h1
      · rw [hrt]; exact h2
    by_cases c1 : (s[i].f1.length : Int) % 4 = 1
    · have hgg := hg (by omega) s[i].f0
      have c2 : 0 < (s[i].f1.length : Int) := by omega
      simp only [if_pos c1, if_pos c2]
      split
      · split
        · exact hf _
        · split
          · split
            · split
              · exact hgg _
              · exact hgg _
            · exact hf _
          · split
            · exact hgg _
            · exact hgg _
      · exact hf _
    · simp only [if_neg c1]
      exact hf _
theorem pl_codes (s : List S26) (hs : Good s) (d : Nat) : ∀ (i : Nat), i + d = s.length → Both (fun k => headseg_ParseLengths.l0 k s s (s.length : Int) (i : Int)) (fun k => waveletref29_ParseLengths.l0 k s (i : Int)) := by
  have h10 := hs.1
  induction d with
  | zero =>
    intro i hi
    have hj : ∀ x, Both (fun k => headseg_ParseLengths.j1 k s x) (fun k => waveletref29_ParseLengths.j1 k s x) := fun x => by
      cases x with
      | true => exact ⟨([], 8), by simp, Ev.step (fun k => headseg_ParseLengths.j1.eq_2 ..) (Ev.pos rfl (Ev.now _)), Ev.step (fun k => waveletref29_ParseLengths.j1.eq_2 ..) (Ev.pos rfl (Ev.now _))⟩
      | false =>
        obtain ⟨r, hr, h1, h2⟩ := pl_outer s hs s.length 0 [] (by omega) (by simp)
        exact ⟨r, hr, Ev.step (fun k => headseg_ParseLengths.j1.eq_2 ..) (Ev.neg (by simp) h1), Ev.step (fun k => waveletref29_ParseLengths.j1.eq_2 ..) (Ev.neg (by simp) h2)⟩
    by_cases h0 : (s.length : Int) = 0
    · obtain ⟨r, hr, h1, h2⟩ := hj true
      exact ⟨r, hr, Ev.step (fun k => headseg_ParseLengths.l0.eq_2 ..) (Ev.neg (by omega) (Ev.pos h0 h1)), Ev.step (fun k => waveletref29_ParseLengths.l0.eq_2 ..) (Ev.neg (by omega) (Ev.pos h0 h2))⟩
    · obtain ⟨r, hr, h1, h2⟩ := hj (decide ((s.length : Int) > 256))
      exact ⟨r, hr, Ev.step (fun k => headseg_ParseLengths.l0.eq_2 ..) (Ev.neg (by omega) (Ev.neg h0 h1)), Ev.step (fun k => waveletref29_ParseLengths.l0.eq_2 ..) (Ev.neg (by omega) (Ev.neg h0 h2))⟩
  | succ d ih =>
    intro i hi
    have hw : wrap64 ((i : Int) + 1) = ((i + 1 : Nat) : Int) := by unfold wrap64; omega
    obtain ⟨r, hr, h1, h2⟩ := ih (i + 1) (by omega)
    by_cases c1 : (rd_T26 s (i : Int)).f0 = (rd_T26 s 0).f0
    · by_cases c2 : (rd_T26 s (i : Int)).f0 = 65445
      · exact ⟨r, hr, Ev.step (fun k => headseg_ParseLengths.l0.eq_2 ..) (Ev.pos (by omega) (Ev.pos (by omega) (Ev.pos (by omega) (Ev.pos (by omega) (Ev.pos c1 (Ev.pos c2 (by rw [hw]; exact h1))))))),
          Ev.step (fun k => waveletref29_ParseLengths.l0.eq_2 ..) (Ev.pos (by omega) (Ev.pos (by omega) (Ev.pos (by omega) (Ev.pos c1 (Ev.pos c2 (by rw [hw]; exact h2))))))⟩
      · by_cases c3 : (rd_T26 s (i : Int)).f0 = 65457
        · exact ⟨r, hr, Ev.step (fun k => headseg_ParseLengths.l0.eq_2 ..) (Ev.pos (by omega) (Ev.pos (by omega) (Ev.pos (by omega) (Ev.pos (by omega) (Ev.pos c1 (Ev.neg c2 (Ev.pos c3 (by rw [hw]; exact h1)))))))),
            Ev.step (fun k => waveletref29_ParseLengths.l0.eq_2 ..) (Ev.pos (by omega) (Ev.pos (by omega) (Ev.pos (by omega) (Ev.pos c1 (Ev.neg c2 (Ev.pos c3 (by rw [hw]; exact h2)))))))⟩
        · exact ⟨([], 11), by simp, Ev.step (fun k => headseg_ParseLengths.l0.eq_2 ..) (Ev.pos (by omega) (Ev.pos (by omega) (Ev.pos (by omega) (Ev.pos (by omega) (Ev.pos c1 (Ev.neg c2 (Ev.neg c3 (Ev.now _)))))))),
            Ev.step (fun k => waveletref29_ParseLengths.l0.eq_2 ..) (Ev.pos (by omega) (Ev.pos (by omega) (Ev.pos (by omega) (Ev.pos c1 (Ev.neg c2 (Ev.neg c3 (Ev.now _)))))))⟩
    · exact ⟨([], 11), by simp, Ev.step (fun k => headseg_ParseLengths.l0.eq_2 ..) (Ev.pos (by omega) (Ev.pos (by omega) (Ev.pos (by omega) (Ev.pos (by omega) (Ev.neg c1 (Ev.now _)))))),
        Ev.step (fun k => waveletref29_ParseLengths.l0.eq_2 ..) (Ev.pos (by omega) (Ev.pos (by omega) (Ev.pos (by omega) (Ev.neg c1 (Ev.now _)))))⟩
theorem pl_both (s : List S26) (hs : Good s) : Both (fun k => headseg_ParseLengths.f k s) (fun k => waveletref29_ParseLengths.f k s) := by
  have := pl_codes s hs s.length 0 (by omega)
  simpa [headseg_ParseLengths.f, waveletref29_ParseLengths.f] using this

theorem sameInts_refl (a : List Int) (ha : a.length ≤ 1000000000000) (d : Nat) : ∀ (j : Nat), j + d = a.length → Ev (fun k => waveletlaw29_sameInts.l0 k a a (a.length : Int) (j : Int)) true := by
  induction d with
  | zero =>
    intro j hj
    exact Ev.step (fun k => waveletlaw29_sameInts.l0.eq_2 ..) (Ev.neg (by omega) (Ev.now _))
  | succ d ih =>
    intro j hj
    refine Ev.step (fun k => waveletlaw29_sameInts.l0.eq_2 ..) (Ev.pos (by omega) (Ev.pos (by omega) (Ev.pos (by omega) (Ev.pos (by omega) (Ev.pos rfl ?_)))))
    rw [show wrap64 ((j : Int) + 1) = ((j + 1 : Nat) : Int) by unfold wrap64; omega]
    exact ih (j + 1) (by omega)
theorem ev_sameInts (a : List Int) (ha : a.length ≤ 1000000000000) : Ev (fun k => waveletlaw29_sameInts.f k a a) true :=
  Ev.congr (fun k => waveletlaw29_sameInts.f.eq_1 ..) (Ev.pos rfl (sameInts_refl a ha a.length 0 (by omega)))
theorem sameSegs_loop (a : List S26) (ha : a.length ≤ 1000000) (hb : ∀ x ∈ a, x.f1.length ≤ 100000) (d : Nat) : ∀ (j : Nat), j + d = a.length → Ev (fun k => waveletlaw29_sameSegments.l0 k a a (a.length : Int) (j : Int)) true := by
  induction d with
  | zero =>
    intro j hj
    exact Ev.step (fun k => waveletlaw29_sameSegments.l0.eq_2 ..) (Ev.neg (by omega) (Ev.now _))
  | succ d ih =>
    intro j hj
    have hlt : j < a.length := by omega
    have h1 := hb a[j] (List.getElem_mem hlt)
    rw [← rdT_at j hlt] at h1
    refine Ev.step (fun k => waveletlaw29_sameSegments.l0.eq_2 ..) (Ev.pos (by omega) (Ev.pos (by omega) (Ev.pos (by omega) (Ev.pos (by omega) (Ev.bind (ev_sameSegment _ _ (by omega)) (Ev.pos rfl ?_))))))
    rw [show wrap64 ((j : Int) + 1) = ((j + 1 : Nat) : Int) by unfold wrap64; omega]
    exact ih (j + 1) (by omega)
theorem ev_sameSegs (a : List S26) (ha : a.length ≤ 1000000) (hb : ∀ x ∈ a, x.f1.length ≤ 100000) : Ev (fun k => waveletlaw29_sameSegments.f k a a) true :=
  Ev.congr (fun k => waveletlaw29_sameSegments.f.eq_1 ..) (Ev.pos rfl (sameSegs_loop a ha hb a.length 0 (by omega)))
theorem LenF_small (c : Int) (l : List Int) (hl : l.length ≤ 40000) : (LenF c l).1.length ≤ 3 ∧ ∀ x ∈ (LenF c l).1, x.f1.length ≤ 64001 := by
  unfold LenF
  split
  · simp
  · split
    · refine ⟨by rw [segsFrom_length]; unfold nseg; omega, fun x hx => ?_⟩
      obtain ⟨j, hj, rfl⟩ := List.getElem_of_mem hx
      rw [segsFrom_get]
      exact seg_length c l _
    · simp
end Go.Proofs.Ytihfopblmjgfaaa.Pure
