/- Lengths in plain lists and numbers. -/
import Derived.Test.YtihfopblmjgfaaaPureRef
namespace Go.Proofs.Ytihfopblmjgfaaa.Pure
open Go.RowKit Go.Proofs.Ytihfopblmjgfaaa.Q Go.Proofs.YtihfopblmjgfaaaW.PrintWords
set_option linter.unusedVariables false
set_option maxRecDepth 100000

theorem Ev.pos {α : Type} {c : Prop} [Decidable c] {f g : Nat → Option α} {r : α} (h : c) (k : Ev f r) : Ev (fun n => if c then f n else g n) r := by
  obtain ⟨K, hk⟩ := k
  exact ⟨K, fun n hn => (if_pos h).trans (hk n hn)⟩
theorem Ev.neg {α : Type} {c : Prop} [Decidable c] {f g : Nat → Option α} {r : α} (h : ¬ c) (k : Ev g r) : Ev (fun n => if c then f n else g n) r := by
  obtain ⟨K, hk⟩ := k
  exact ⟨K, fun n hn => (if_neg h).trans (hk n hn)⟩
theorem Ev.plus {α : Type} {f : Nat → Option α} {r : α} (m : Nat) (h : ∀ k, f (k + m) = some r) : Ev f r :=
  ⟨m, fun n hn => by rw [← h (n - m)]; congr 1; omega⟩
theorem Ev.val {α : Type} {f : Nat → Option α} {r : α} (h : Ev f r) : ∃ K, ∀ k, K ≤ k → f k = some r := h
theorem ev_put (acc : List Int) (v : Int) (n : Nat) (hn : n ≤ 8) (ha : acc.length + n ≤ 140737488355328) : Ev (fun k => headseg_put.f k acc (n : Int) v) (acc ++ be v n) := Ev.plus 9 (put_eq acc v n hn ha)
theorem ev_rput (acc : List Int) (v : Int) (n : Nat) (hn : n ≤ 8) (ha : acc.length + n ≤ 140737488355328) : Ev (fun k => waveletref29_put.f k acc v (n : Int)) (acc ++ be v n) := Ev.plus 9 (rput_eq acc v n hn ha)
theorem ev_within (lo hi : Int) (l : List Int) (hl : l.length ≤ 9223372036854775807) : Ev (fun k => headseg_within.f k lo hi l) (inside lo hi l) :=
  Ev.plus (l.length + 1) (fun k => by rw [← Nat.add_assoc]; exact within_eq lo hi l hl k)
theorem ev_awake : Ev (fun k => waveletlaw29_awake.f k) true := by
  obtain ⟨k, h⟩ := awake_holds
  exact Ev.of waveletlaw29_awake.mono h
theorem ev_ru (l : List Int) (a n : Int) (hl : l.length ≤ 1000000) (ha : a ≤ 9223372036854775807) : Ev (fun k => marker_ReadUint.f k l a n) (RU l a n) := Ev.plus 6 (ru_eq l a n hl ha)
theorem ev_get {l : List Int} (hb : ∀ x ∈ l, (Lit.int .u8 x).wf = true) (hl : l.length ≤ 1000000) (a n : Nat) (hn : n ≤ 4) (han : a + n ≤ l.length) : Ev (fun k => waveletref29_get.f k l (a : Int) (n : Int)) (num (sub l a n)) := Ev.plus 6 (get_eq hb hl a n hn han)
theorem ev_same (a : List Int) (ha : a.length ≤ 1000000000000) : Ev (fun k => waveletlaw29_same.f k a a) true := Ev.plus (a.length + 1) (fun k => by rw [← Nat.add_assoc]; exact same_refl a ha k)
theorem ev_sameSegment (c : Int) (a : List Int) (ha : a.length ≤ 1000000000000) : Ev (fun k => waveletlaw29_sameSegment.f k c a c a) true := Ev.plus (a.length + 1) (fun k => by rw [← Nat.add_assoc]; exact sameSegment_refl c a ha k)

theorem rd_at {l : List Int} (i : Nat) (hi : i < l.length) : rd l (i : Int) = l[i] := by
  unfold rd
  rw [Int.toNat_natCast, List.getD_eq_getElem?_getD, List.getElem?_eq_getElem hi]
  rfl
/-- The bytes of some numbers. -/
def enc4 : List Int → List Int
  | [] => []
  | v :: l => be v 4 ++ enc4 l
theorem enc4_length : ∀ l : List Int, (enc4 l).length = 4 * l.length
  | [] => rfl
  | v :: l => by simp [enc4, be_length, enc4_length l]; omega
/-- The numbers of the segment i. -/
def chunk (l : List Int) (i : Nat) : List Int := (l.drop (16000 * i)).take 16000
def segAt (c : Int) (l : List Int) (i : Nat) : S26 := ⟨c, (i : Int) % 256 :: enc4 (chunk l i)⟩
def nseg (l : List Int) : Nat := max 1 ((l.length + 15999) / 16000)
/-- The segments from number i on. -/
def segsFrom (c : Int) (l : List Int) : Nat → Nat → List S26
  | _, 0 => []
  | i, d + 1 => segAt c l i :: segsFrom c l (i + 1) d
def LenF (c : Int) (l : List Int) : List S26 × Int :=
  if ¬ (c = 65445 ∨ c = 65457) then ([], 3) else if inside 0 4294967295 l then (segsFrom c l 0 (nseg l), 0) else ([], 2)
theorem len_inner {R : List S26 × Int} (c : Int) (l : List Int) (acc : List S26) (x7 : Int) (m : List Int) (hm : m.length ≤ 40000) (hacc : acc.length ≤ 1000) (d : Nat) : ∀ (j : Nat) (x8 : List Int), j + d = m.length → x8.length ≤ 4 * j + 1 →
    Ev (fun k => headseg_Lengths.l0 k c l (acc ++ [(⟨c, x8 ++ enc4 (m.drop j)⟩ : S26)]) (wrap64 (x7 + 16000))) R → Ev (fun k => headseg_Lengths.l1 k c l acc x7 x8 m (m.length : Int) (j : Int)) R := by
  induction d with
  | zero =>
    intro j x8 hj hx h
    refine Ev.step (fun k => headseg_Lengths.l1.eq_2 ..) (Ev.neg (by omega) (Ev.pos (by omega) ?_))
    rw [List.drop_eq_nil_of_le (by omega)] at h
    simpa [enc4] using h
  | succ d ih =>
    intro j x8 hj hx h
    refine Ev.step (fun k => headseg_Lengths.l1.eq_2 ..) (Ev.pos (by omega) (Ev.pos (by omega) (Ev.pos (by omega) (Ev.bind (ev_put x8 _ 4 (by omega) (by omega)) ?_))))
    rw [show wrap64 ((j : Int) + 1) = ((j + 1 : Nat) : Int) by unfold wrap64; omega]
    refine ih (j + 1) _ (by omega) (by simp [be_length]; omega) ?_
    rw [List.drop_eq_getElem_cons (show j < m.length by omega)] at h
    rw [rd_at j (by omega)]
    simpa [enc4] using h
theorem cut_chunk (l : List Int) (i : Nat) (x : Int) (hx : x = mn (((16000 * i : Nat) : Int) + 16000) (l.length : Int)) : (l.take x.toNat).drop (16000 * i) = chunk l i := by
  subst hx
  unfold chunk mn
  rw [List.drop_take]
  rcases Nat.lt_or_ge l.length (16000 * i + 16000) with h | h
  · rw [List.take_of_length_le (l := l.drop (16000 * i)) (i := 16000) (by rw [List.length_drop]; omega), List.take_of_length_le]
    rw [List.length_drop]
    split <;> omega
  · congr 1
    split <;> omega
theorem len_outer (c : Int) (l : List Int) (hl : l.length ≤ 40000) (d : Nat) : ∀ (i : Nat) (acc : List S26), i + d = nseg l → acc.length ≤ i → Ev (fun k => headseg_Lengths.l0 k c l acc ((16000 * i : Nat) : Int)) (acc ++ segsFrom c l i d, 0) := by
  have hn : nseg l ≤ 3 := by unfold nseg; omega
  induction d with
  | zero =>
    intro i acc hi ha
    have h1 : 1 ≤ i ∧ l.length ≤ 16000 * i := by unfold nseg at hi; omega
    refine Ev.step (fun k => headseg_Lengths.l0.eq_2 ..) (Ev.neg (by omega) (Ev.step (fun k => headseg_Lengths.j2.eq_2 ..) (Ev.neg ?_ ?_)))
    · simp; omega
    · simpa [segsFrom] using Ev.now (acc, (0 : Int))
  | succ d ih =>
    intro i acc hi ha
    have h1 : i = 0 ∨ 16000 * i < l.length := by unfold nseg at hi; omega
    have hmn : mn (wrap64 (((16000 * i : Nat) : Int) + 16000)) (l.length : Int) = mn (((16000 * i : Nat) : Int) + 16000) (l.length : Int) := by
      rw [show wrap64 (((16000 * i : Nat) : Int) + 16000) = ((16000 * i : Nat) : Int) + 16000 by unfold wrap64; omega]
    have hb : ((16000 * i : Nat) : Int) ≤ mn (((16000 * i : Nat) : Int) + 16000) (l.length : Int) ∧ mn (((16000 * i : Nat) : Int) + 16000) (l.length : Int) ≤ (l.length : Int) := by
      unfold mn
      split <;> omega
    have key : Ev (fun k => headseg_Lengths.j2 k c l acc ((16000 * i : Nat) : Int) true) (acc ++ segsFrom c l i (d + 1), 0) := by
      refine Ev.step (fun k => headseg_Lengths.j2.eq_2 ..) (Ev.pos rfl (Ev.pos (by omega) (Ev.pos (by rw [hmn]; omega) (Ev.pos (by rw [hmn]; omega) ?_))))
      rw [hmn, show (((16000 * i : Nat) : Int)).toNat = 16000 * i by omega, cut_chunk l i _ rfl]
      have hd : wrap64 (Int.tdiv ((16000 * i : Nat) : Int) 16000) % 256 = (i : Int) % 256 := by
        rw [show Int.tdiv ((16000 * i : Nat) : Int) 16000 = (i : Int) by rw [Int.tdiv_eq_ediv_of_nonneg (by omega)]; omega]
        unfold wrap64
        omega
      rw [hd]
      have hcl : (chunk l i).length ≤ 40000 := by unfold chunk; rw [List.length_take, List.length_drop]; omega
      refine len_inner c l acc _ (chunk l i) hcl (by omega) (chunk l i).length 0 _ (by omega) (by simp) ?_
      rw [show wrap64 (((16000 * i : Nat) : Int) + 16000) = ((16000 * (i + 1) : Nat) : Int) by unfold wrap64; omega]
      have := ih (i + 1) (acc ++ [segAt c l i]) (by omega) (by simp; omega)
      simpa [segsFrom, segAt] using this
    refine Ev.step (fun k => headseg_Lengths.l0.eq_2 ..) ?_
    by_cases h0 : i = 0
    · subst h0
      exact Ev.pos (by omega) key
    · refine Ev.neg (by omega) ?_
      rw [decide_eq_true (show ((16000 * i : Nat) : Int) < (l.length : Int) by omega)]
      exact key
theorem len_ev (c : Int) (l : List Int) (hl : l.length ≤ 40000) : Ev (fun k => headseg_Lengths.f k c l) (LenF c l) := by
  have hj : Ev (fun k => headseg_Lengths.j0 k c l true) ([], 3) := Ev.step (fun k => headseg_Lengths.j0.eq_2 ..) (Ev.pos rfl (Ev.now _))
  have hk : Ev (fun k => headseg_Lengths.j0 k c l false) (if inside 0 4294967295 l then (segsFrom c l 0 (nseg l), 0) else ([], 2)) := by
    refine Ev.step (fun k => headseg_Lengths.j0.eq_2 ..) (Ev.neg (by simp) (Ev.neg (by omega) (Ev.bind (ev_within 0 4294967295 l (by omega)) ?_)))
    cases hw : inside 0 4294967295 l with
    | true => exact Ev.pos rfl (by have := len_outer c l hl (nseg l) 0 [] (by omega) (by simp); simpa using this)
    | false => exact Ev.neg (by simp) (Ev.now _)
  unfold LenF
  refine Ev.congr (fun k => headseg_Lengths.f.eq_1 ..) ?_
  by_cases h1 : c = 65445
  · rw [if_neg (fun h => h (.inl h1))]
    exact Ev.pos h1 hk
  · refine Ev.neg h1 ?_
    by_cases h2 : c = 65457
    · rw [if_neg (fun h => h (.inr h2)), show (c != 65457) = false by simp [h2]]
      exact hk
    · rw [if_pos (by omega), show (c != 65457) = true by simp [h2]]
      exact hj
theorem seg_length (c : Int) (l : List Int) (i : Nat) : (segAt c l i).f1.length ≤ 64001 := by
  simp only [segAt, List.length_cons, enc4_length, chunk, List.length_take]
  omega
theorem segsFrom_length (c : Int) (l : List Int) : ∀ (d i : Nat), (segsFrom c l i d).length = d
  | 0, i => rfl
  | d + 1, i => by simp [segsFrom, segsFrom_length c l d]
theorem segsFrom_get (c : Int) (l : List Int) : ∀ (d i j : Nat) (h : j < (segsFrom c l i d).length), (segsFrom c l i d)[j] = segAt c l (i + j)
  | 0, i, j, h => by simp [segsFrom] at h
  | d + 1, i, 0, h => by simp [segsFrom]
  | d + 1, i, j + 1, h => by
    simp only [segsFrom, List.getElem_cons_succ]
    rw [segsFrom_get c l d (i + 1) j]
    congr 1
    omega
end Go.Proofs.Ytihfopblmjgfaaa.Pure
