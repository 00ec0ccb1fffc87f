/- A list of lengths is read back from its segments. -/
import Derived.Test.YtihfopblmjgfaaaPureLen
import Derived.Test.YtihfopblmjgfaaaQ28
import Derived.Test.YtihfopblmjgfaaaQ29
namespace Go.Proofs.Ytihfopblmjgfaaa.Pure
open Go.RowKit Go.Proofs.Ytihfopblmjgfaaa.Q Go.Proofs.YtihfopblmjgfaaaW.PrintWords
set_option linter.unusedVariables false
set_option maxRecDepth 100000

theorem num_be4 (v : Int) (h0 : 0 ≤ v) (h1 : v ≤ 4294967295) : num (be v 4) = v := by
  have e : be v 4 = [(v / 16777216) % 256, (v / 65536) % 256, (v / 256) % 256, v % 256] := by simp [be]
  rw [e]
  simp only [num, List.foldl]
  have s1 : step 0 (v / 16777216 % 256) = v / 16777216 % 256 := by rw [step_eq (by omega) (by omega) (by omega) (by omega)]; omega
  have s2 : step (v / 16777216 % 256) (v / 65536 % 256) = v / 65536 := by rw [step_eq (by omega) (by omega) (by omega) (by omega)]; omega
  have s3 : step (v / 65536) (v / 256 % 256) = v / 256 := by rw [step_eq (by omega) (by omega) (by omega) (by omega)]; omega
  have s4 : step (v / 256) (v % 256) = v := by rw [step_eq (by omega) (by omega) (by omega) (by omega)]; omega
  rw [s1, s2, s3, s4]
theorem enc4_drop : ∀ (j : Nat) (m : List Int), (enc4 m).drop (4 * j) = enc4 (m.drop j)
  | 0, m => rfl
  | j + 1, [] => by simp [enc4]
  | j + 1, v :: m => by
    rw [show 4 * (j + 1) = (be v 4).length + 4 * j by rw [be_length]; omega]
    simp only [enc4, List.drop_succ_cons]
    rw [← List.drop_drop, List.drop_left, enc4_drop j m]
theorem sub_enc4 (x : Int) (m : List Int) (j : Nat) (hj : j < m.length) : sub (x :: enc4 m) (4 * j + 1) 4 = be m[j] 4 := by
  unfold sub
  rw [List.drop_take, show 4 * j + 1 + 4 - (4 * j + 1) = 4 by omega, List.drop_succ_cons, enc4_drop, List.drop_eq_getElem_cons hj]
  simp only [enc4]
  rw [List.take_append_of_le_length (by rw [be_length]; omega), List.take_of_length_le (by rw [be_length]; omega)]
theorem rdT_at' {s : List S26} (i : Nat) (hi : i < s.length) : rd_T26 s (i : Int) = s[i] := by
  unfold rd_T26
  rw [Int.toNat_natCast, List.getD_eq_getElem?_getD, List.getElem?_eq_getElem hi]
  rfl
theorem inside_mem {lo hi : Int} {l : List Int} (h : inside lo hi l = true) (j : Nat) (hj : j < l.length) : lo ≤ l[j] ∧ l[j] ≤ hi := by
  have := List.all_eq_true.1 h l[j] (List.getElem_mem hj)
  simpa using this
theorem back_inner (s : List S26) (i : Nat) (x : Int) (m : List Int) (hm : ∀ (j : Nat) (hj : j < m.length), 0 ≤ m[j] ∧ m[j] ≤ 4294967295) (hml : m.length ≤ 16000) (c : Int) (hi : i < 100) {r : List Int × Int} (a0 : List Int) (ha0 : a0.length ≤ 1000000)
    (next : Ev (fun k => headseg_ParseLengths.l1 k s (a0 ++ m) s (s.length : Int) ((i + 1 : Nat) : Int)) r) (d : Nat) :
    ∀ (j : Nat), j + d = m.length → Ev (fun k => headseg_ParseLengths.l2 k s (a0 ++ m.take j) ((x :: enc4 m).length : Int) ((4 * j + 1 : Nat) : Int) s (s.length : Int) (i : Int) c (x :: enc4 m)) r := by
  have hw : wrap64 ((i : Int) + 1) = ((i + 1 : Nat) : Int) := by unfold wrap64; omega
  have hlen : (x :: enc4 m).length = 4 * m.length + 1 := by rw [List.length_cons, enc4_length]
  induction d with
  | zero =>
    intro j hj
    refine Ev.step (fun k => headseg_ParseLengths.l2.eq_2 ..) (Ev.neg (by omega) ?_)
    rw [hw, List.take_of_length_le (by omega)]
    exact next
  | succ d ih =>
    intro j hj
    have hlt : j < m.length := by omega
    have hru : RU (x :: enc4 m) ((4 * j + 1 : Nat) : Int) 4 = (m[j], 0) := by
      rw [show RU (x :: enc4 m) ((4 * j + 1 : Nat) : Int) 4 = _ from RU_in (x :: enc4 m) (4 * j + 1) 4 (by omega) (by omega) (by omega), sub_enc4 x m j hlt, num_be4 _ (hm j hlt).1 (hm j hlt).2]
    have hw2 : wrap64 (((4 * j + 1 : Nat) : Int) + 4) = ((4 * (j + 1) + 1 : Nat) : Int) := by unfold wrap64; omega
    refine Ev.step (fun k => headseg_ParseLengths.l2.eq_2 ..) (Ev.pos (by omega) (Ev.bind (ev_ru _ _ 4 (by omega) (by omega)) (Ev.pos (by simp; omega) ?_)))
    rw [hru, hw2]
    have := ih (j + 1) (by omega)
    rw [List.take_succ_eq_append_getElem hlt, ← List.append_assoc] at this
    exact this
theorem back_outer (c : Int) (l : List Int) (hl : l.length ≤ 40000) (hin : inside 0 4294967295 l = true) (s : List S26) (hs : s = segsFrom c l 0 (nseg l)) (d : Nat) : ∀ (i : Nat), i + d = nseg l → Ev (fun k => headseg_ParseLengths.l1 k s (l.take (16000 * i)) s (s.length : Int) (i : Int)) (l, 0) := by
  have hn : nseg l ≤ 3 := by unfold nseg; omega
  have hsl : s.length = nseg l := by rw [hs, segsFrom_length]
  induction d with
  | zero =>
    intro i hi
    have h1 : 1 ≤ i ∧ l.length ≤ 16000 * i := by unfold nseg at hi; omega
    refine Ev.step (fun k => headseg_ParseLengths.l1.eq_2 ..) (Ev.neg (by omega) ?_)
    rw [List.take_of_length_le h1.2]
    exact Ev.now _
  | succ d ih =>
    intro i hi
    have hlt : i < s.length := by omega
    have hget : rd_T26 s (i : Int) = segAt c l i := by
      rw [rdT_at' i hlt]
      subst hs
      rw [segsFrom_get]
      congr 1
      omega
    have h1 : i = 0 ∨ 16000 * i < l.length := by unfold nseg at hi; omega
    have h2 : i + 1 < nseg l → 16000 * (i + 1) < l.length := by unfold nseg; omega
    have hcl : (chunk l i).length = min 16000 (l.length - 16000 * i) := by unfold chunk; rw [List.length_take, List.length_drop]
    have hbl : (segAt c l i).f1.length = 4 * (chunk l i).length + 1 := by simp only [segAt, List.length_cons, enc4_length]
    have hb0 : wrap64 (rd (segAt c l i).f1 0) = (i : Int) := by
      have : rd (segAt c l i).f1 0 = (i : Int) % 256 := by simp [rd, segAt]
      rw [this]
      unfold wrap64
      omega
    have hj3 : Ev (fun k => headseg_ParseLengths.j3 k s (l.take (16000 * i)) ((segAt c l i).f1.length : Int) s (s.length : Int) (i : Int) false (segAt c l i).f0 (segAt c l i).f1) (l, 0) := by
      refine Ev.step (fun k => headseg_ParseLengths.j3.eq_2 ..) (Ev.neg (by simp) ?_)
      have hnx := ih (i + 1) (by omega)
      rw [show l.take (16000 * (i + 1)) = l.take (16000 * i) ++ chunk l i by unfold chunk; rw [← List.take_add]; congr 1] at hnx
      have := back_inner s i ((i : Int) % 256) (chunk l i) (fun j hj => by
        have hjl : 16000 * i + j < l.length := by omega
        have hg : (chunk l i)[j] = l[16000 * i + j] := by simp only [chunk, List.getElem_take, List.getElem_drop]
        rw [hg]
        exact inside_mem hin _ hjl) (by omega) (segAt c l i).f0 (by omega) (l.take (16000 * i)) (by rw [List.length_take]; omega) hnx (chunk l i).length 0 (by omega)
      simpa [segAt] using this
    have hx : Ev (fun k => headseg_ParseLengths.j3 k s (l.take (16000 * i)) ((segAt c l i).f1.length : Int) s (s.length : Int) (i : Int) (((segAt c l i).f1.length : Int) == 1) (segAt c l i).f0 (segAt c l i).f1) (l, 0) ∨ i = 0 := by
      by_cases h0 : i = 0
      · exact .inr h0
      · left
        rw [show (((segAt c l i).f1.length : Int) == 1) = false by rw [beq_eq_false_iff_ne]; omega]
        exact hj3
    refine Ev.step (fun k => headseg_ParseLengths.l1.eq_2 ..) (Ev.pos (by omega) (Ev.pos (by omega) (Ev.pos (by omega) ?_)))
    rw [hget]
    refine Ev.pos (by omega) (Ev.pos (by omega) (Ev.pos hb0 (Ev.neg (by omega) ?_)))
    rw [show wrap64 ((s.length : Int) - 1) = (s.length : Int) - 1 by unfold wrap64; omega]
    by_cases h3 : (i : Int) < (s.length : Int) - 1
    · refine Ev.pos h3 (Ev.pos (by omega) ?_)
      by_cases h0 : (i : Int) > 0
      · exact Ev.pos h0 (hx.resolve_right (by omega))
      · exact Ev.neg h0 hj3
    · refine Ev.neg h3 ?_
      by_cases h0 : (i : Int) > 0
      · exact Ev.pos h0 (hx.resolve_right (by omega))
      · exact Ev.neg h0 hj3
theorem back_codes (c : Int) (hc : c = 65445 ∨ c = 65457) (l : List Int) (hl : l.length ≤ 40000) (hin : inside 0 4294967295 l = true) (s : List S26) (hs : s = segsFrom c l 0 (nseg l)) (d : Nat) : ∀ (i : Nat), i + d = nseg l → Ev (fun k => headseg_ParseLengths.l0 k s s (s.length : Int) (i : Int)) (l, 0) := by
  have hn : 1 ≤ nseg l ∧ nseg l ≤ 3 := by unfold nseg; omega
  have hsl : s.length = nseg l := by rw [hs, segsFrom_length]
  have hcode : ∀ i : Nat, i < s.length → (rd_T26 s (i : Int)).f0 = c := fun i hi => by
    rw [rdT_at' i hi]
    subst hs
    rw [segsFrom_get]
    rfl
  induction d with
  | zero =>
    intro i hi
    refine Ev.step (fun k => headseg_ParseLengths.l0.eq_2 ..) (Ev.neg (by omega) (Ev.neg (by omega) ?_))
    rw [decide_eq_false (show ¬ (s.length : Int) > 256 by omega)]
    refine Ev.step (fun k => headseg_ParseLengths.j1.eq_2 ..) (Ev.neg (by simp) ?_)
    have := back_outer c l hl hin s hs (nseg l) 0 (by omega)
    simpa using this
  | succ d ih =>
    intro i hi
    have hw : wrap64 ((i : Int) + 1) = ((i + 1 : Nat) : Int) := by unfold wrap64; omega
    have h1 := hcode i (by omega)
    have h2 : (rd_T26 s 0).f0 = c := hcode 0 (by omega)
    have hnx := ih (i + 1) (by omega)
    refine Ev.step (fun k => headseg_ParseLengths.l0.eq_2 ..) (Ev.pos (by omega) (Ev.pos (by omega) (Ev.pos (by omega) (Ev.pos (by omega) (Ev.pos (by rw [h1, h2]) ?_)))))
    rw [hw]
    rcases hc with hc | hc
    · exact Ev.pos (by rw [h1]; exact hc) hnx
    · exact Ev.neg (by rw [h1]; omega) (Ev.pos (by rw [h1]; exact hc) hnx)
theorem back_ev (c : Int) (hc : c = 65445 ∨ c = 65457) (l : List Int) (hl : l.length ≤ 40000) (hin : inside 0 4294967295 l = true) : Ev (fun k => headseg_ParseLengths.f k (segsFrom c l 0 (nseg l))) (l, 0) := by
  have := back_codes c hc l hl hin _ rfl (nseg l) 0 (by omega)
  simpa [headseg_ParseLengths.f] using this
theorem sameInts_refl' (a : List Int) (ha : a.length ≤ 1000000000000) (d : Nat) : ∀ (j : Nat), j + d = a.length → Ev (fun k => waveletlaw29_sameInts.l0 k a a (a.length : Int) (j : Int)) true := by
  induction d with
  | zero =>
    intro j hj
    exact Ev.step (fun k => waveletlaw29_sameInts.l0.eq_2 ..) (Ev.neg (by omega) (Ev.now _))
  | succ d ih =>
    intro j hj
    refine Ev.step (fun k => waveletlaw29_sameInts.l0.eq_2 ..) (Ev.pos (by omega) (Ev.pos (by omega) (Ev.pos (by omega) (Ev.pos (by omega) (Ev.pos rfl ?_)))))
    rw [show wrap64 ((j : Int) + 1) = ((j + 1 : Nat) : Int) by unfold wrap64; omega]
    exact ih (j + 1) (by omega)
theorem ev_sameInts' (a : List Int) (ha : a.length ≤ 1000000000000) : Ev (fun k => waveletlaw29_sameInts.f k a a) true :=
  Ev.congr (fun k => waveletlaw29_sameInts.f.eq_1 ..) (Ev.pos rfl (sameInts_refl' a ha a.length 0 (by omega)))
end Go.Proofs.Ytihfopblmjgfaaa.Pure
