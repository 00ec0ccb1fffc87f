/- HeadsegQuants: Quant and ParseQuant return the defined segment, parameters or errors. No condition beside the statement's own. Texts of this session, merged by wip/tools/merge.py. -/
import Derived.Test.YtihfopblmjgfaaaMQuants5
import Derived.Test.YtihfopblmjgfaaaMQuants4
import Derived.Test.YtihfopblmjgfaaaMQuants2
import Derived.Test.YtihfopblmjgfaaaMQuants0
import Derived.ChangeArms
import Derived.SizedLaws
import Derived.Test.YtihfopblmjgfaaaRows
import Derived.WalkKit
import Derived.ProofKit
import Derived.OpenShut
import Derived.ShutString
import Derived.ChangeOld
import Derived.Below
import Derived.Carry
/- Lengths in plain lists and numbers. -/
namespace Go.Proofs.Ytihfopblmjgfaaa.Pure
open Go.RowKit Go.Proofs.Ytihfopblmjgfaaa.Q Go.Proofs.YtihfopblmjgfaaaW.PrintWords
set_option linter.unusedVariables false
set_option maxRecDepth 100000

theorem Ev.pos {α : Type} {c : Prop} [Decidable c] {f g : Nat → Option α} {r : α} (h : c) (k : Ev f r) : Ev (fun n => if c then f n else g n) r := by
  obtain ⟨K, hk⟩ := k
  exact ⟨K, fun n hn => (if_pos h).trans (hk n hn)⟩
theorem Ev.neg {α : Type} {c : Prop} [Decidable c] {f g : Nat → Option α} {r : α} (h : ¬ c) (k : Ev g r) : Ev (fun n => if c then f n else g n) r := by
  obtain ⟨K, hk⟩ := k
  exact ⟨K, fun n hn => (if_neg h).trans (hk n hn)⟩
theorem Ev.plus {α : Type} {f : Nat → Option α} {r : α} (m : Nat) (h : ∀ k, f (k + m) = some r) : Ev f r :=
  ⟨m, fun n hn => by rw [← h (n - m)]; congr 1; omega⟩
theorem Ev.val {α : Type} {f : Nat → Option α} {r : α} (h : Ev f r) : ∃ K, ∀ k, K ≤ k → f k = some r := h
theorem ev_put (acc : List Int) (v : Int) (n : Nat) (hn : n ≤ 8) (ha : acc.length + n ≤ 140737488355328) : Ev (fun k => headseg_put.f k acc (n : Int) v) (acc ++ be v n) := Ev.plus 9 (put_eq acc v n hn ha)
theorem ev_rput (acc : List Int) (v : Int) (n : Nat) (hn : n ≤ 8) (ha : acc.length + n ≤ 140737488355328) : Ev (fun k => waveletref29_put.f k acc v (n : Int)) (acc ++ be v n) := Ev.plus 9 (rput_eq acc v n hn ha)
theorem ev_within (lo hi : Int) (l : List Int) (hl : l.length ≤ 9223372036854775807) : Ev (fun k => headseg_within.f k lo hi l) (inside lo hi l) :=
  Ev.plus (l.length + 1) (fun k => by rw [← Nat.add_assoc]; exact within_eq lo hi l hl k)
theorem ev_awake : Ev (fun k => waveletlaw29_awake.f k) true := by
  obtain ⟨k, h⟩ := awake_holds
  exact Ev.of waveletlaw29_awake.mono h
theorem ev_ru (l : List Int) (a n : Int) (hl : l.length ≤ 1000000) (ha : a ≤ 9223372036854775807) : Ev (fun k => marker_ReadUint.f k l a n) (RU l a n) := Ev.plus 6 (ru_eq l a n hl ha)
theorem ev_get {l : List Int} (hb : ∀ x ∈ l, (Lit.int .u8 x).wf = true) (hl : l.length ≤ 1000000) (a n : Nat) (hn : n ≤ 4) (han : a + n ≤ l.length) : Ev (fun k => waveletref29_get.f k l (a : Int) (n : Int)) (num (sub l a n)) := Ev.plus 6 (get_eq hb hl a n hn han)
theorem ev_same (a : List Int) (ha : a.length ≤ 1000000000000) : Ev (fun k => waveletlaw29_same.f k a a) true := Ev.plus (a.length + 1) (fun k => by rw [← Nat.add_assoc]; exact same_refl a ha k)
theorem ev_sameSegment (c : Int) (a : List Int) (ha : a.length ≤ 1000000000000) : Ev (fun k => waveletlaw29_sameSegment.f k c a c a) true := Ev.plus (a.length + 1) (fun k => by rw [← Nat.add_assoc]; exact sameSegment_refl c a ha k)

theorem rd_at {l : List Int} (i : Nat) (hi : i < l.length) : rd l (i : Int) = l[i] := by
  unfold rd
  rw [Int.toNat_natCast, List.getD_eq_getElem?_getD, List.getElem?_eq_getElem hi]
  rfl
/-- The bytes of some numbers. -/
def enc4 : List Int → List Int
  | [] => []
  | v :: l => be v 4 ++ enc4 l
theorem enc4_length : ∀ l : List Int, (enc4 l).length = 4 * l.length
  | [] => rfl
  | v :: l => by simp [enc4, be_length, enc4_length l]; omega
/-- The numbers of the segment i. -/
def chunk (l : List Int) (i : Nat) : List Int := (l.drop (16000 * i)).take 16000
def segAt (c : Int) (l : List Int) (i : Nat) : S26 := ⟨c, (i : Int) % 256 :: enc4 (chunk l i)⟩
def nseg (l : List Int) : Nat := max 1 ((l.length + 15999) / 16000)
/-- The segments from number i on. -/
def segsFrom (c : Int) (l : List Int) : Nat → Nat → List S26
  | _, 0 => []
  | i, d + 1 => segAt c l i :: segsFrom c l (i + 1) d
def LenF (c : Int) (l : List Int) : List S26 × Int :=
  if ¬ (c = 65445 ∨ c = 65457) then ([], 3) else if inside 0 4294967295 l then (segsFrom c l 0 (nseg l), 0) else ([], 2)
theorem len_inner {R : List S26 × Int} (c : Int) (l : List Int) (acc : List S26) (x7 : Int) (m : List Int) (hm : m.length ≤ 40000) (hacc : acc.length ≤ 1000) (d : Nat) : ∀ (j : Nat) (x8 : List Int), j + d = m.length → x8.length ≤ 4 * j + 1 →
    Ev (fun k => headseg_Lengths.l0 k c l (acc ++ [(⟨c, x8 ++ enc4 (m.drop j)⟩ : S26)]) (wrap64 (x7 + 16000))) R → Ev (fun k => headseg_Lengths.l1 k c l acc x7 x8 m (m.length : Int) (j : Int)) R := by
  induction d with
  | zero =>
    intro j x8 hj hx h
    refine Ev.step (fun k => headseg_Lengths.l1.eq_2 ..) (Ev.neg (by omega) (Ev.pos (by omega) ?_))
    rw [List.drop_eq_nil_of_le (by omega)] at h
    simpa [enc4] using h
  | succ d ih =>
    intro j x8 hj hx h
    refine Ev.step (fun k => headseg_Lengths.l1.eq_2 ..) (Ev.pos (by omega) (Ev.pos (by omega) (Ev.pos (by omega) (Ev.bind (ev_put x8 _ 4 (by omega) (by omega)) ?_))))
    rw [show wrap64 ((j : Int) + 1) = ((j + 1 : Nat) : Int) by unfold wrap64; omega]
    refine ih (j + 1) _ (by omega) (by simp [be_length]; omega) ?_
    rw [List.drop_eq_getElem_cons (show j < m.length by omega)] at h
    rw [rd_at j (by omega)]
    simpa [enc4] using h
theorem cut_chunk (l : List Int) (i : Nat) (x : Int) (hx : x = mn (((16000 * i : Nat) : Int) + 16000) (l.length : Int)) : (l.take x.toNat).drop (16000 * i) = chunk l i := by
  subst hx
  unfold chunk mn
  rw [List.drop_take]
  rcases Nat.lt_or_ge l.length (16000 * i + 16000) with h | h
  · rw [List.take_of_length_le (l := l.drop (16000 * i)) (i := 16000) (by rw [List.length_drop]; omega), List.take_of_length_le]
    rw [List.length_drop]
    split <;> omega
  · congr 1
    split <;> omega
theorem len_outer (c : Int) (l : List Int) (hl : l.length ≤ 40000) (d : Nat) : ∀ (i : Nat) (acc : List S26), i + d = nseg l → acc.length ≤ i → Ev (fun k => headseg_Lengths.l0 k c l acc ((16000 * i : Nat) : Int)) (acc ++ segsFrom c l i d, 0) := by
  have hn : nseg l ≤ 3 := by unfold nseg; omega
  induction d with
  | zero =>
    intro i acc hi ha
    have h1 : 1 ≤ i ∧ l.length ≤ 16000 * i := by unfold nseg at hi; omega
    refine Ev.step (fun k => headseg_Lengths.l0.eq_2 ..) (Ev.neg (by omega) (Ev.step (fun k => headseg_Lengths.j2.eq_2 ..) (Ev.neg ?_ ?_)))
    · simp; omega
    · simpa [segsFrom] using Ev.now (acc, (0 : Int))
  | succ d ih =>
    intro i acc hi ha
    have h1 : i = 0 ∨ 16000 * i < l.length := by unfold nseg at hi; omega
    have hmn : mn (wrap64 (((16000 * i : Nat) : Int) + 16000)) (l.length : Int) = mn (((16000 * i : Nat) : Int) + 16000) (l.length : Int) := by
      rw [show wrap64 (((16000 * i : Nat) : Int) + 16000) = ((16000 * i : Nat) : Int) + 16000 by unfold wrap64; omega]
    have hb : ((16000 * i : Nat) : Int) ≤ mn (((16000 * i : Nat) : Int) + 16000) (l.length : Int) ∧ mn (((16000 * i : Nat) : Int) + 16000) (l.length : Int) ≤ (l.length : Int) := by
      unfold mn
      split <;> omega
    have key : Ev (fun k => headseg_Lengths.j2 k c l acc ((16000 * i : Nat) : Int) true) (acc ++ segsFrom c l i (d + 1), 0) := by
      refine Ev.step (fun k => headseg_Lengths.j2.eq_2 ..) (Ev.pos rfl (Ev.pos (by omega) (Ev.pos (by rw [hmn]; omega) (Ev.pos (by rw [hmn]; omega) ?_))))
      rw [hmn, show (((16000 * i : Nat) : Int)).toNat = 16000 * i by omega, cut_chunk l i _ rfl]
      have hd : wrap64 (Int.tdiv ((16000 * i : Nat) : Int) 16000) % 256 = (i : Int) % 256 := by
        rw [show Int.tdiv ((16000 * i : Nat) : Int) 16000 = (i : Int) by rw [Int.tdiv_eq_ediv_of_nonneg (by omega)]; omega]
        unfold wrap64
        omega
      rw [hd]
      have hcl : (chunk l i).length ≤ 40000 := by unfold chunk; rw [List.length_take, List.length_drop]; omega
      refine len_inner c l acc _ (chunk l i) hcl (by omega) (chunk l i).length 0 _ (by omega) (by simp) ?_
      rw [show wrap64 (((16000 * i : Nat) : Int) + 16000) = ((16000 * (i + 1) : Nat) : Int) by unfold wrap64; omega]
      have := ih (i + 1) (acc ++ [segAt c l i]) (by omega) (by simp; omega)
      simpa [segsFrom, segAt] using this
    refine Ev.step (fun k => headseg_Lengths.l0.eq_2 ..) ?_
    by_cases h0 : i = 0
    · subst h0
      exact Ev.pos (by omega) key
    · refine Ev.neg (by omega) ?_
      rw [decide_eq_true (show ((16000 * i : Nat) : Int) < (l.length : Int) by omega)]
      exact key
theorem len_ev (c : Int) (l : List Int) (hl : l.length ≤ 40000) : Ev (fun k => headseg_Lengths.f k c l) (LenF c l) := by
  have hj : Ev (fun k => headseg_Lengths.j0 k c l true) ([], 3) := Ev.step (fun k => headseg_Lengths.j0.eq_2 ..) (Ev.pos rfl (Ev.now _))
  have hk : Ev (fun k => headseg_Lengths.j0 k c l false) (if inside 0 4294967295 l then (segsFrom c l 0 (nseg l), 0) else ([], 2)) := by
    refine Ev.step (fun k => headseg_Lengths.j0.eq_2 ..) (Ev.neg (by simp) (Ev.neg (by omega) (Ev.bind (ev_within 0 4294967295 l (by omega)) ?_)))
    cases hw : inside 0 4294967295 l with
    | true => exact Ev.pos rfl (by have := len_outer c l hl (nseg l) 0 [] (by omega) (by simp); simpa using this)
    | false => exact Ev.neg (by simp) (Ev.now _)
  unfold LenF
  refine Ev.congr (fun k => headseg_Lengths.f.eq_1 ..) ?_
  by_cases h1 : c = 65445
  · rw [if_neg (fun h => h (.inl h1))]
    exact Ev.pos h1 hk
  · refine Ev.neg h1 ?_
    by_cases h2 : c = 65457
    · rw [if_neg (fun h => h (.inr h2)), show (c != 65457) = false by simp [h2]]
      exact hk
    · rw [if_pos (by omega), show (c != 65457) = true by simp [h2]]
      exact hj
theorem seg_length (c : Int) (l : List Int) (i : Nat) : (segAt c l i).f1.length ≤ 64001 := by
  simp only [segAt, List.length_cons, enc4_length, chunk, List.length_take]
  omega
theorem segsFrom_length (c : Int) (l : List Int) : ∀ (d i : Nat), (segsFrom c l i d).length = d
  | 0, i => rfl
  | d + 1, i => by simp [segsFrom, segsFrom_length c l d]
theorem segsFrom_get (c : Int) (l : List Int) : ∀ (d i j : Nat) (h : j < (segsFrom c l i d).length), (segsFrom c l i d)[j] = segAt c l (i + j)
  | 0, i, j, h => by simp [segsFrom] at h
  | d + 1, i, 0, h => by simp [segsFrom]
  | d + 1, i, j + 1, h => by
    simp only [segsFrom, List.getElem_cons_succ]
    rw [segsFrom_get c l d (i + 1) j]
    congr 1
    omega
end Go.Proofs.Ytihfopblmjgfaaa.Pure

/- Reading numbers, in the limit. -/
namespace Go.Proofs.Ytihfopblmjgfaaa.Pure
open Go.RowKit Go.Proofs.Ytihfopblmjgfaaa.Q Go.Proofs.YtihfopblmjgfaaaW.PrintWords
set_option linter.unusedVariables false
set_option maxRecDepth 100000
theorem ev_rdn {ρ : Type} {l : List Int} {p n : Int} {bad : Int → ρ} {f : Nat → Int → Option ρ} {v : Int} {r : ρ} (h : Ev (fun k => marker_ReadUint.f k l p n) (v, 0)) (hf : Ev (fun k => f k v) r) : Ev (fun k => rdn k l p n bad (f k)) r := Ev.bind h (Ev.pos rfl hf)
theorem ev_rdn_bad {ρ : Type} {l : List Int} {p n : Int} {bad : Int → ρ} {f : Nat → Int → Option ρ} {v e : Int} (he : e ≠ 0) (h : Ev (fun k => marker_ReadUint.f k l p n) (v, e)) : Ev (fun k => rdn k l p n bad (f k)) (bad e) := Ev.bind h (Ev.neg he (Ev.now _))
theorem ev_in (l : List Int) (hl : l.length ≤ 1000000) (a n : Nat) (h1 : 1 ≤ n) (hn : n ≤ 4) (han : a + n ≤ l.length) : Ev (fun k => marker_ReadUint.f k l (a : Int) (n : Int)) (num (sub l a n), 0) := by
  have := ev_ru l (a : Int) (n : Int) hl (by omega)
  rwa [RU_in l a n h1 hn han] at this
theorem ev_out (l : List Int) (hl : l.length ≤ 1000000) (a n : Nat) (h1 : 1 ≤ n) (hn : n ≤ 4) (ha : a ≤ l.length) (han : l.length < a + n) : Ev (fun k => marker_ReadUint.f k l (a : Int) (n : Int)) (0, 7) := by
  have := ev_ru l (a : Int) (n : Int) hl (by omega)
  rwa [RU_out l a n h1 hn ha han] at this
theorem sub_one (l : List Int) (a : Nat) (h : a < l.length) : sub l a 1 = [l[a]] := by
  unfold sub
  rw [List.drop_take, show a + 1 - a = 1 by omega, List.drop_eq_getElem_cons h]
  rfl
theorem num_one {l : List Int} (hb : ∀ x ∈ l, (Lit.int .u8 x).wf = true) (a : Nat) (h : a < l.length) : num (sub l a 1) = l[a] := by
  rw [sub_one l a h]
  obtain ⟨h0, h1⟩ := wf_u8 (hb _ (List.getElem_mem h))
  simp only [num, List.foldl]
  rw [step_eq (by omega) (by omega) h0 h1]
  omega
theorem getD_at {l : List Int} (i : Nat) (h : i < l.length) : l.getD i 0 = l[i] := by
  rw [List.getD_eq_getElem?_getD, List.getElem?_eq_getElem h]
  rfl
end Go.Proofs.Ytihfopblmjgfaaa.Pure

/- Quant and ParseQuant: what they compute. Printed by wip/tools/genPureQuant.py of this session. -/
namespace Go.Proofs.Ytihfopblmjgfaaa.Pure
open Go.RowKit Go.Proofs.Ytihfopblmjgfaaa.Q Go.Proofs.YtihfopblmjgfaaaW.PrintWords
set_option linter.unusedVariables false
set_option maxRecDepth 100000

/-- The bytes of the steps. -/
def encS : List Int → List Int
  | [] => []
  | x :: l => be (wrap64 (x - 1)) 2 ++ encS l
theorem encS_length : ∀ l, (encS l).length = 2 * l.length
  | [] => rfl
  | x :: l => by simp [encS, be_length, encS_length l]; omega
theorem quant_l0 (s : List Int) (hl : s.length ≤ 100000) (n : Nat) : ∀ (i : Nat) (acc : List Int), i + n = s.length → acc.length ≤ 1000 + 2 * i → Ev (fun k => headseg_Quant.l0 k acc s (s.length : Int) (i : Int)) (65443, acc ++ encS (s.drop i), 0) := by
  induction n with
  | zero =>
    intro i acc hi ha
    rw [List.drop_eq_nil_of_le (by omega)]
    exact Ev.step (fun k => headseg_Quant.l0.eq_2 ..) (Ev.neg (by omega) (by simpa [encS] using Ev.now ((65443 : Int), acc, (0 : Int))))
  | succ n ih =>
    intro i acc hi ha
    have hlt : i < s.length := by omega
    have hw : wrap64 ((i : Int) + 1) = ((i + 1 : Nat) : Int) := by unfold wrap64; omega
    refine Ev.step (fun k => headseg_Quant.l0.eq_2 ..) (Ev.pos (by omega) (Ev.pos (by omega) (Ev.pos (by omega) ?_)))
    rw [rd_at i hlt, hw, List.drop_eq_getElem_cons hlt]
    have := ih (i + 1) (acc ++ be (wrap64 (s[i] - 1)) 2) (by omega) (by simp [be_length]; omega)
    exact Ev.bind (ev_put acc _ 2 (by omega) (by omega)) (by simpa [encS] using this)
def QuantF (dd : Int) (s : List Int) : Int × List Int × Int :=
  if (0 ≤ dd ∧ dd ≤ 255) ∧ s.length ≤ 255 ∧ inside 1 65536 s = true then (65443, be dd 1 ++ be (s.length : Int) 1 ++ encS s, 0) else (0, [], 2)
theorem QuantF_length (dd : Int) (s : List Int) : (QuantF dd s).2.1.length ≤ 1000 := by
  unfold QuantF
  split
  · simp [be_length, encS_length]; omega
  · simp
theorem quant_ev (p0 : Int) (p1 : Int) (p2 : Int) (p3 : Int) (p4 : Int) (t : List S89) (p6 : Int) (p7 : Int) (p8 : Bool) (p9 : Bool) (p10 : Bool) (p11 : Bool) (p12 : Bool) (p13 : Bool) (p14 : Bool) (p15 : Bool) (s : List Int) (dd : Int) (p18 : Int) (hl : s.length ≤ 300) : Ev (fun k => headseg_Quant.f k p0 p1 p2 p3 p4 t p6 p7 p8 p9 p10 p11 p12 p13 p14 p15 s dd p18) (QuantF dd s) := by
  refine Ev.congr (fun k => headseg_Quant.f.eq_1 ..) (Ev.bind (ev_within 0 255 [dd, (s.length : Int)] (by simp)) ?_)
  unfold QuantF
  by_cases h1 : inside 0 255 [dd, (s.length : Int)] = true
  · refine Ev.pos h1 (Ev.bind (ev_within 1 65536 s (by omega)) (Ev.step (fun k => headseg_Quant.j0.eq_2 ..) ?_))
    have h1' : (0 ≤ dd ∧ dd ≤ 255) ∧ s.length ≤ 255 := by
      simp [inside] at h1
      omega
    by_cases h2 : inside 1 65536 s = true
    · rw [if_pos ⟨h1'.1, h1'.2, h2⟩]
      refine Ev.neg (by simp [h2]) ?_
      have := quant_l0 s (by omega) s.length 0 [dd % 256, (s.length : Int) % 256] (by omega) (by simp)
      simpa [be] using this
    · rw [if_neg (fun h => h2 h.2.2)]
      exact Ev.pos (by simp [h2]) (Ev.now _)
  · rw [if_neg (fun h => h1 (by simp [inside]; omega))]
    exact Ev.neg h1 (Ev.step (fun k => headseg_Quant.j0.eq_2 ..) (Ev.pos rfl (Ev.now _)))
theorem rquant_l0 (p0 : Int) (p1 : Int) (p2 : Int) (p3 : Int) (p4 : Int) (t : List S89) (p6 : Int) (p7 : Int) (p8 : Bool) (p9 : Bool) (p10 : Bool) (p11 : Bool) (p12 : Bool) (p13 : Bool) (p14 : Bool) (p15 : Bool) (s : List Int) (dd : Int) (p18 : Int) (hl : s.length ≤ 100000) (n : Nat) : ∀ (i : Nat) (acc : List Int), i + n = s.length → acc.length ≤ 1000 + 2 * i → Ev (fun k => waveletref29_Quant.l0 k acc (i : Int) p0 p1 p2 p3 p4 t p6 p7 p8 p9 p10 p11 p12 p13 p14 p15 s dd p18) (if inside 1 65536 (s.drop i) = true then (65443, acc ++ encS (s.drop i), 0) else (0, [], 2)) := by
  induction n with
  | zero =>
    intro i acc hi ha
    rw [List.drop_eq_nil_of_le (by omega)]
    exact Ev.step (fun k => waveletref29_Quant.l0.eq_2 ..) (Ev.neg (by omega) (by simpa [encS, inside] using Ev.now ((65443 : Int), acc, (0 : Int))))
  | succ n ih =>
    intro i acc hi ha
    have hlt : i < s.length := by omega
    have hw : wrap64 ((i : Int) + 1) = ((i + 1 : Nat) : Int) := by unfold wrap64; omega
    refine Ev.step (fun k => waveletref29_Quant.l0.eq_2 ..) (Ev.pos (by omega) (Ev.pos (by omega) ?_))
    rw [rd_at i hlt, hw, List.drop_eq_getElem_cons hlt, rin_eq]
    simp only [Option.bind_some]
    have := ih (i + 1) (acc ++ be (wrap64 (s[i] - 1)) 2) (by omega) (by simp [be_length]; omega)
    by_cases h : (decide (1 ≤ s[i]) && decide (s[i] ≤ 65536)) = true
    · have e : inside 1 65536 (s[i] :: s.drop (i + 1)) = inside 1 65536 (s.drop (i + 1)) := by simp only [inside, List.all_cons, h, Bool.true_and]
      rw [e]
      exact Ev.pos h (Ev.bind (ev_rput acc _ 2 (by omega) (by omega)) (by simpa [encS] using this))
    · have e : inside 1 65536 (s[i] :: s.drop (i + 1)) = false := by
        have h' : (decide (1 ≤ s[i]) && decide (s[i] ≤ 65536)) = false := by simpa using h
        simp only [inside, List.all_cons, h', Bool.false_and]
      rw [e, if_neg (by simp)]
      exact Ev.neg h (Ev.now _)
theorem rquant_ev (p0 : Int) (p1 : Int) (p2 : Int) (p3 : Int) (p4 : Int) (t : List S89) (p6 : Int) (p7 : Int) (p8 : Bool) (p9 : Bool) (p10 : Bool) (p11 : Bool) (p12 : Bool) (p13 : Bool) (p14 : Bool) (p15 : Bool) (s : List Int) (dd : Int) (p18 : Int) (hl : s.length ≤ 300) : Ev (fun k => waveletref29_Quant.f k p0 p1 p2 p3 p4 t p6 p7 p8 p9 p10 p11 p12 p13 p14 p15 s dd p18) (QuantF dd s) := by
  refine Ev.congr (fun k => waveletref29_Quant.f.eq_1 ..) ?_
  rw [rin_eq]
  simp only [Option.bind_some]
  unfold QuantF
  by_cases h1 : (decide (0 ≤ dd) && decide (dd ≤ 255)) = true
  · refine Ev.pos h1 (Ev.step (fun k => waveletref29_Quant.j0.eq_2 ..) ?_)
    have h1' : 0 ≤ dd ∧ dd ≤ 255 := by simpa using h1
    by_cases h2 : (s.length : Int) > 255
    · rw [if_neg (fun h => by omega)]
      exact Ev.pos (by simpa using h2) (Ev.now _)
    · refine Ev.neg (by simpa using h2) (Ev.bind (ev_rput [] dd 1 (by omega) (by simp)) (Ev.bind (ev_rput _ (s.length : Int) 1 (by omega) (by simp [be_length])) ?_))
      have := rquant_l0 p0 p1 p2 p3 p4 t p6 p7 p8 p9 p10 p11 p12 p13 p14 p15 s dd p18 (by omega) s.length 0 (be dd 1 ++ be (s.length : Int) 1) (by omega) (by simp [be_length])
      by_cases h3 : inside 1 65536 s = true
      · rw [if_pos ⟨h1', by omega, h3⟩]
        simpa [h3] using this
      · rw [if_neg (fun h => h3 h.2.2)]
        simpa [h3] using this
  · rw [if_neg (fun h => h1 (by simpa using h.1))]
    exact Ev.neg h1 (Ev.step (fun k => waveletref29_Quant.j0.eq_2 ..) (Ev.pos rfl (Ev.now _)))

/-- The steps of a segment. -/
def stepsAt (l : List Int) : Nat → Nat → List Int
  | _, 0 => []
  | p, n + 1 => wrap64 (num (sub l p 2) + 1) :: stepsAt l (p + 2) n
theorem stepsAt_length (l : List Int) : ∀ n p, (stepsAt l p n).length = n
  | 0, _ => rfl
  | n + 1, p => by simp [stepsAt, stepsAt_length l n]
theorem quantLoop_in {l : List Int} (hl : l.length ≤ 1000000) (n : Nat) : ∀ (p : Nat) (xs : List Int), p + 2 * n ≤ l.length → xs.length ≤ p → Ev (fun k => quantLoop k l (p : Int) (n : Int) xs) (0, xs ++ stepsAt l p n, ((p + 2 * n : Nat) : Int)) := by
  induction n with
  | zero =>
    intro p xs hp hx
    refine Ev.step (fun k => quantLoop.eq_2 ..) (Ev.neg (by omega) ?_)
    simpa [stepsAt] using Ev.now ((0 : Int), xs, (p : Int))
  | succ n ih =>
    intro p xs hp hx
    have e2 : wrap64 ((p : Int) + 2) = ((p + 2 : Nat) : Int) := by unfold wrap64; omega
    have e4 : wrap64 (((n + 1 : Nat) : Int) - 1) = (n : Int) := by unfold wrap64; omega
    have := ih (p + 2) (xs ++ [wrap64 (num (sub l p 2) + 1)]) (by omega) (by simp; omega)
    refine Ev.step (fun k => quantLoop.eq_2 ..) (Ev.pos (by omega) (Ev.pos (by omega) (ev_rdn (ev_in l hl p 2 (by omega) (by omega) (by omega)) ?_)))
    rw [e2, e4]
    simpa [stepsAt, show p + 2 + 2 * n = p + 2 * (n + 1) by omega] using this
theorem quantLoop_out {l : List Int} (hl : l.length ≤ 1000000) (n : Nat) : ∀ (p : Nat) (xs : List Int), p ≤ l.length → l.length < p + 2 * n → xs.length ≤ p → n ≤ 1000000 → Ev (fun k => quantLoop k l (p : Int) (n : Int) xs) (7, [], 0) := by
  induction n with
  | zero =>
    intro p xs hp hq hx hn1
    omega
  | succ n ih =>
    intro p xs hp hq hx hn1
    have e2 : wrap64 ((p : Int) + 2) = ((p + 2 : Nat) : Int) := by unfold wrap64; omega
    have e4 : wrap64 (((n + 1 : Nat) : Int) - 1) = (n : Int) := by unfold wrap64; omega
    refine Ev.step (fun k => quantLoop.eq_2 ..) (Ev.pos (by omega) (Ev.pos (by omega) ?_))
    rw [e2, e4]
    by_cases c1 : p + 2 ≤ l.length
    rotate_left
    · exact ev_rdn_bad (by omega) (ev_out l hl p 2 (by omega) (by omega) hp (by omega))
    refine ev_rdn (ev_in l hl p 2 (by omega) (by omega) c1) ?_
    exact ih (p + 2) _ c1 (by omega) (by simp; omega) (by omega)
/-- The number of steps. -/
def cntQ (l : List Int) : Nat := (l.getD 1 0).toNat
theorem cntQ_le {l : List Int} (hb : ∀ x ∈ l, (Lit.int .u8 x).wf = true) (h : 2 ≤ l.length) : cntQ l ≤ 255 ∧ l[1] = (cntQ l : Int) := by
  obtain ⟨b0, b1⟩ := wf_u8 (hb _ (List.getElem_mem (show 1 < l.length by omega)))
  unfold cntQ
  rw [getD_at 1 (by omega)]
  omega
theorem quantRead_ev {l : List Int} (hb : ∀ x ∈ l, (Lit.int .u8 x).wf = true) (hl : l.length ≤ 1000000) :
    Ev (fun k => quantRead k l) (if 2 ≤ l.length ∧ 2 + 2 * cntQ l ≤ l.length then (0, l.getD 0 0, stepsAt l 2 (cntQ l), ((2 + 2 * cntQ l : Nat) : Int)) else badQuant 7) := by
  unfold quantRead
  by_cases c0 : 1 ≤ l.length
  rotate_left
  · rw [if_neg (by omega)]; exact ev_rdn_bad (by omega) (ev_out l hl 0 1 (by omega) (by omega) (by omega) (by omega))
  have r0 := ev_in l hl 0 1 (by omega) (by omega) c0
  rw [num_one hb 0 (by omega)] at r0
  refine ev_rdn r0 ?_
  by_cases c1 : 2 ≤ l.length
  rotate_left
  · rw [if_neg (by omega)]; exact ev_rdn_bad (by omega) (ev_out l hl 1 1 (by omega) (by omega) (by omega) (by omega))
  have r := ev_in l hl 1 1 (by omega) (by omega) c1
  obtain ⟨hcn, h12⟩ := cntQ_le hb c1
  rw [num_one hb 1 (by omega), h12] at r
  refine ev_rdn r ?_
  by_cases c7 : 2 + 2 * cntQ l ≤ l.length
  · rw [if_pos ⟨c1, c7⟩, getD_at 0 (by omega)]
    have := quantLoop_in hl (cntQ l) 2 [] c7 (by simp)
    exact Ev.bind this (by simpa using Ev.now _)
  · rw [if_neg (by omega)]
    have := quantLoop_out hl (cntQ l) 2 [] c1 (by omega) (by simp) (by omega)
    exact Ev.bind this (by simpa using Ev.now (badQuant 7))
def zeroP (e : Int) : Int × Int × Int × Int × Int × List S89 × Int × Int × Bool × Bool × Bool × Bool × Bool × Bool × Bool × Bool × List Int × Int × Int × Int := (0, 0, 0, 0, 0, [], 0, 0, false, false, false, false, false, false, false, false, [], 0, 0, e)
def PQuantF (c : Int) (l : List Int) (p0 : Int) (p1 : Int) (p2 : Int) (p3 : Int) (p4 : Int) (t : List S89) (p6 : Int) (p7 : Int) (p8 : Bool) (p9 : Bool) (p10 : Bool) (p11 : Bool) (p12 : Bool) (p13 : Bool) (p14 : Bool) (p15 : Bool) (s : List Int) (dd : Int) (p18 : Int) : Int × Int × Int × Int × Int × List S89 × Int × Int × Bool × Bool × Bool × Bool × Bool × Bool × Bool × Bool × List Int × Int × Int × Int :=
  if c = 65443 then (if 2 ≤ l.length ∧ 2 + 2 * cntQ l ≤ l.length then (if 2 + 2 * cntQ l < l.length then zeroP 9 else (p0, p1, p2, p3, p4, t, p6, p7, p8, p9, p10, p11, p12, p13, p14, p15, stepsAt l 2 (cntQ l), l.getD 0 0, p18, 0)) else zeroP 7) else zeroP 11
theorem pquant_ev {l : List Int} (hb : ∀ x ∈ l, (Lit.int .u8 x).wf = true) (hl : l.length ≤ 1000000) (c : Int) (p0 : Int) (p1 : Int) (p2 : Int) (p3 : Int) (p4 : Int) (t : List S89) (p6 : Int) (p7 : Int) (p8 : Bool) (p9 : Bool) (p10 : Bool) (p11 : Bool) (p12 : Bool) (p13 : Bool) (p14 : Bool) (p15 : Bool) (s : List Int) (dd : Int) (p18 : Int) (hs : s.length ≤ 300) (ht : t.length ≤ 300) : Ev (fun k => headseg_ParseQuant.f k c l p0 p1 p2 p3 p4 t p6 p7 p8 p9 p10 p11 p12 p13 p14 p15 s dd p18) (PQuantF c l p0 p1 p2 p3 p4 t p6 p7 p8 p9 p10 p11 p12 p13 p14 p15 s dd p18) := by
  refine Ev.congr (fun k => headseg_ParseQuant.f.eq_1 ..) (Ev.bind (quantRead_ev hb hl) ?_)
  rw [if_pos (by omega), if_pos (by omega)]
  unfold PQuantF
  by_cases hc : c = 65443
  · rw [if_pos hc, if_pos hc]
    by_cases h1 : 2 ≤ l.length ∧ 2 + 2 * cntQ l ≤ l.length
    · rw [if_pos h1, if_pos h1, if_pos rfl]
      by_cases h2 : 2 + 2 * cntQ l < l.length
      · rw [if_pos h2, if_pos (show ((2 + 2 * cntQ l : Nat) : Int) < (l.length : Int) by omega)]
        exact Ev.now _
      · rw [if_neg h2, if_neg (show ¬ ((2 + 2 * cntQ l : Nat) : Int) < (l.length : Int) by omega)]
        exact Ev.now _
    · rw [if_neg h1, if_neg h1, if_neg (by simp [badQuant])]
      exact Ev.now _
  · rw [if_neg hc, if_neg hc]
    exact Ev.now _
theorem rquantLoop_ev {l : List Int} (hb : ∀ x ∈ l, (Lit.int .u8 x).wf = true) (hl : l.length ≤ 1000000) (n0 : Nat) (hlen : l.length = 2 + 2 * n0) (n : Nat) : ∀ (i : Nat) (s : List Int), i + n = n0 → s.length ≤ i →
    Ev (fun k => rquantLoop k ((2 + 2 * n0 : Nat) : Int) ((2 + 2 * i : Nat) : Int) l s) (s ++ stepsAt l (2 + 2 * i) n) := by
  induction n with
  | zero =>
    intro i s hi hx
    refine Ev.step (fun k => rquantLoop.eq_2 ..) (Ev.neg (by omega) ?_)
    simpa [stepsAt] using Ev.now s
  | succ n ih =>
    intro i s hi hx
    have e3 : wrap64 (((2 + 2 * i : Nat) : Int) + 2) = ((2 + 2 * (i + 1) : Nat) : Int) := by unfold wrap64; omega
    refine Ev.step (fun k => rquantLoop.eq_2 ..) (Ev.pos (by omega) (Ev.bind (ev_get hb hl (2 + 2 * i) 2 (by omega) (by omega)) (Ev.pos (by omega) ?_)))
    rw [e3]
    have := ih (i + 1) (s ++ [wrap64 (num (sub l (2 + 2 * i) 2) + 1)]) (by omega) (by simp; omega)
    simpa [stepsAt, show 2 + 2 * i + 2 = 2 + 2 * (i + 1) by omega] using this
theorem rpquant_ev {l : List Int} (hb : ∀ x ∈ l, (Lit.int .u8 x).wf = true) (hl : l.length ≤ 1000000) (c : Int) (p0 : Int) (p1 : Int) (p2 : Int) (p3 : Int) (p4 : Int) (t : List S89) (p6 : Int) (p7 : Int) (p8 : Bool) (p9 : Bool) (p10 : Bool) (p11 : Bool) (p12 : Bool) (p13 : Bool) (p14 : Bool) (p15 : Bool) (s : List Int) (dd : Int) (p18 : Int) (hs : s.length ≤ 300) (ht : t.length ≤ 300) : Ev (fun k => waveletref29_ParseQuant.f k c l p0 p1 p2 p3 p4 t p6 p7 p8 p9 p10 p11 p12 p13 p14 p15 s dd p18) (PQuantF c l p0 p1 p2 p3 p4 t p6 p7 p8 p9 p10 p11 p12 p13 p14 p15 s dd p18) := by
  refine Ev.congr (fun k => waveletref29_ParseQuant.f.eq_1 ..) ?_
  unfold PQuantF
  rw [framed_eq]
  simp only [Option.bind_some]
  by_cases hc : c = 65443
  rotate_left
  · rw [if_neg hc, if_neg hc]
    exact Ev.neg (by omega) (Ev.now _)
  rw [if_pos hc, if_pos hc]
  by_cases h2 : 2 ≤ l.length
  rotate_left
  · rw [if_neg (show ¬ (2 ≤ l.length ∧ 2 + 2 * cntQ l ≤ l.length) by omega), show rquantN l = 2 from if_neg (by omega), if_pos (show (l.length : Int) < 2 by omega)]
    exact Ev.neg (by omega) (Ev.now _)
  obtain ⟨hcn, h12⟩ := cntQ_le hb h2
  have hr12 : rd l 1 = (cntQ l : Int) := by
    have := (rd_bytes hb 1 (by omega)).1
    rw [← h12]
    exact this
  have hN : rquantN l = ((2 + 2 * cntQ l : Nat) : Int) := by
    unfold rquantN
    rw [if_pos (by omega), hr12, show wrap64 (2 + wrap64 (2 * wrap64 (cntQ l : Int))) = ((2 + 2 * cntQ l : Nat) : Int) by unfold wrap64; omega]
  rw [hN]
  by_cases h1 : 2 + 2 * cntQ l ≤ l.length
  rotate_left
  · rw [if_neg (show ¬ (2 ≤ l.length ∧ 2 + 2 * cntQ l ≤ l.length) by omega), if_pos (show (l.length : Int) < ((2 + 2 * cntQ l : Nat) : Int) by omega)]
    exact Ev.neg (by omega) (Ev.now _)
  rw [if_pos (show 2 ≤ l.length ∧ 2 + 2 * cntQ l ≤ l.length from ⟨h2, h1⟩), if_neg (show ¬ (l.length : Int) < ((2 + 2 * cntQ l : Nat) : Int) by omega)]
  by_cases h3 : 2 + 2 * cntQ l < l.length
  · rw [if_pos h3, if_pos (show (l.length : Int) > ((2 + 2 * cntQ l : Nat) : Int) by omega)]
    exact Ev.neg (by omega) (Ev.now _)
  rw [if_neg h3, if_neg (show ¬ (l.length : Int) > ((2 + 2 * cntQ l : Nat) : Int) by omega)]
  have r0 := rd_bytes hb 0 (by omega)
  have e0 : wrap64 (rd l 0) = l.getD 0 0 := by
    have r1 : rd l 0 = l[0] := r0.1
    rw [getD_at 0 (by omega), r1]
    unfold wrap64
    omega
  rw [e0]
  have := rquantLoop_ev hb hl (cntQ l) (by omega) (cntQ l) 0 [] (by omega) (by simp)
  exact Ev.pos rfl (Ev.pos (by omega) (Ev.pos (by omega) (Ev.pos (by omega) (Ev.bind this (by simpa using Ev.now _)))))
end Go.Proofs.Ytihfopblmjgfaaa.Pure

/- HeadsegQuants: Quant and ParseQuant return the defined segment, parameters or errors. No condition beside the statement's own. -/
namespace Go.Proofs.Ytihfopblmjgfaaa.Pure
open Go.RowKit Go.Proofs.Ytihfopblmjgfaaa.Q Go.Proofs.YtihfopblmjgfaaaW.PrintWords
set_option linter.unusedVariables false
set_option maxRecDepth 100000
theorem posI {α : Type} {c : Prop} {I : Decidable c} {f g : Nat → Option α} {r : α} (h : c) (k : Ev f r) : Ev (fun n => @ite _ c I (f n) (g n)) r := Ev.pos h k
theorem HeadsegQuants (a0_0 : Int) (a0_1 : Int) (a0_2 : Int) (a0_3 : Int) (a0_4 : Int) (l0_5 : List (S89)) (a0_6 : Int) (a0_7 : Int) (a0_8 : Bool) (a0_9 : Bool) (a0_10 : Bool) (a0_11 : Bool) (a0_12 : Bool) (a0_13 : Bool) (a0_14 : Bool) (a0_15 : Bool) (l0_16 : List (Int)) (a0_17 : Int) (a0_18 : Int) (a1_0 : Int) (l1_1 : List (Int)) (w0_0 : (Lit.int .i64 a0_0).wf = true) (w0_1 : (Lit.int .i64 a0_1).wf = true) (w0_2 : (Lit.int .i64 a0_2).wf = true) (w0_3 : (Lit.int .i64 a0_3).wf = true) (w0_4 : (Lit.int .i64 a0_4).wf = true) (y0_5 : l0_5.length * 16 ≤ 140737488351232) (w0_5 : ∀ x ∈ l0_5, ((Lit.int .i64 x.f0).wf = true ∧ (Lit.int .i64 x.f1).wf = true)) (w0_6 : (Lit.int .i64 a0_6).wf = true) (w0_7 : (Lit.int .i64 a0_7).wf = true) (y0_16 : l0_16.length * 8 ≤ 140737488351232) (w0_16 : ∀ x ∈ l0_16, (Lit.int .i64 x).wf = true) (w0_17 : (Lit.int .i64 a0_17).wf = true) (w0_18 : (Lit.int .i64 a0_18).wf = true) (w1_0 : (Lit.int .i64 a1_0).wf = true) (y1_1 : l1_1.length * 1 ≤ 140737488351232) (w1_1 : ∀ x ∈ l1_1, (Lit.int .u8 x).wf = true) : ∃ k, waveletlaw29_HeadsegQuants.f k a0_0 a0_1 a0_2 a0_3 a0_4 l0_5 a0_6 a0_7 a0_8 a0_9 a0_10 a0_11 a0_12 a0_13 a0_14 a0_15 l0_16 a0_17 a0_18 a1_0 l1_1 = some true := by
  refine Ev.rounds (Ev.congr (fun k => waveletlaw29_HeadsegQuants.f.eq_1 ..) ?_)
  by_cases h1 : (l0_16.length : Int) > 300
  · exact Ev.pos h1 ev_awake
  refine Ev.neg h1 ?_
  by_cases h2 : (l0_5.length : Int) > 300
  · exact Ev.pos h2 ev_awake
  refine Ev.neg h2 ?_
  simp only [waveletlaw29_long.f, Option.bind_some]
  by_cases h3 : (l1_1.length : Int) > 70000
  · rw [decide_eq_true h3]; exact Ev.pos rfl ev_awake
  rw [decide_eq_false h3]
  have hl : l1_1.length ≤ 1000000 := by omega
  have hs : l0_16.length ≤ 300 := by omega
  have ht : l0_5.length ≤ 300 := by omega
  refine Ev.neg (by simp) (Ev.bind (quant_ev _ _ _ _ _ _ _ _ _ _ _ _ _ _ _ _ _ _ _ hs) (Ev.bind (rquant_ev _ _ _ _ _ _ _ _ _ _ _ _ _ _ _ _ _ _ _ hs) (Ev.bind (pquant_ev w1_1 hl a1_0 _ _ _ _ _ _ _ _ _ _ _ _ _ _ _ _ _ _ _ hs ht) (Ev.bind (rpquant_ev w1_1 hl a1_0 _ _ _ _ _ _ _ _ _ _ _ _ _ _ _ _ _ _ _ hs ht) (posI ⟨rfl, rfl⟩ ?_)))))
  exact Ev.congr (fun k => waveletlaw29_HeadsegQuants.g.eq_1 ..) (Ev.bind (ev_sameSegment _ _ (by have := QuantF_length a0_17 l0_16; omega)) (Ev.pos rfl ev_awake))
end Go.Proofs.Ytihfopblmjgfaaa.Pure

/- How an argument of a law is opened as a value of a printed kind, for any type that is built of integers, bools, strings, slices and structs: 'Opens P t d ok' says that what reads as data of type t holds the cells of some v of kind d, with ok v. -/
namespace Go.Proofs.Ytihfopblmjgfaaa.Open
open Go.RowKit Go.Proofs.YtihfopblmjgfaaaW.PrintWords

def Light {H : Type} (P : Program) (t : TypeId) (d : DataW H) : Prop := ∀ n ∈ d.weights P t, n ≤ 140737488351232

structure Opens {α : Type} (P : Program) (t : TypeId) (d : Kd α) (ok : α → Prop) : Prop where
  size : P.cellsOf t = d.sz
  opens : ∀ {H : Type} {enc : TypeId × Value → H} {w : World} {base : Nat} {spare : Nat → Bool} {held : Bool} {fuel : Nat} {cs : List Value} {x : DataW H × List MemPlace},
    DataW.trod enc P w base spare held fuel t cs = some x → Light P t x.1 → ∃ v, d.K w v cs ∧ ok v

theorem opens_int {P : Program} {t : TypeId} {k : IntKind} (ht : P.underlying t = some (.int k)) (hc : P.cellsOf t = 1) : Opens P t (Kd.int k) (fun n => (Lit.int k n).wf = true) :=
  ⟨hc, fun h _ => by
    obtain ⟨n, rfl, _, hw⟩ := DataW.trod_int ht h
    exact ⟨n, rfl, hw⟩⟩
theorem opens_bool {P : Program} {t : TypeId} (ht : P.underlying t = some .bool) (hc : P.cellsOf t = 1) : Opens P t Kd.bool (fun _ => True) :=
  ⟨hc, fun h _ => by
    obtain ⟨b, rfl, _⟩ := DataW.trod_bool ht h
    exact ⟨b, rfl, trivial⟩⟩
theorem list_of_lt {α : Type} {p : Nat → α → Prop} : ∀ (n : Nat), (∀ i, i < n → ∃ v, p i v) → ∃ l : List α, l.length = n ∧ ∀ i v, l[i]? = some v → p i v
  | 0, _ => ⟨[], rfl, fun i v h => by simp at h⟩
  | n + 1, h => by
    obtain ⟨l, hl, hp⟩ := list_of_lt n (fun i hi => h i (by omega))
    obtain ⟨v, hv⟩ := h n (by omega)
    refine ⟨l ++ [v], by simp [hl], fun i u hu => ?_⟩
    rcases Nat.lt_or_ge i n with hi | hi
    · rw [List.getElem?_append_left (by omega)] at hu
      exact hp i u hu
    · rw [List.getElem?_append_right (by omega), hl] at hu
      have hi0 : i - n = 0 := by
        rcases Nat.eq_zero_or_pos (i - n) with h0 | h0
        · exact h0
        · rw [List.getElem?_eq_none (by simp; omega)] at hu
          cases hu
      rw [hi0] at hu
      have : i = n := by omega
      subst this
      have e : v = u := by simpa using hu
      subst e
      exact hv

theorem weightsAll_mem {H : Type} {P : Program} {e : TypeId} : ∀ {ds : List (DataW H)} {j : Nat} {d : DataW H}, ds[j]? = some d → ∀ n ∈ d.weights P e, n ∈ DataW.weightsAll P e ds
  | d0 :: ds, 0, d, hd, n, hn => by
    simp only [List.getElem?_cons_zero, Option.some.injEq] at hd
    subst hd
    simp only [DataW.weightsAll, List.mem_append]
    exact Or.inl hn
  | d0 :: ds, j + 1, d, hd, n, hn => by
    simp only [List.getElem?_cons_succ] at hd
    simp only [DataW.weightsAll, List.mem_append]
    exact Or.inr (weightsAll_mem hd n hn)
  | [], _, _, hd, _, _ => by simp at hd

theorem opens_slice {α : Type} {P : Program} {t e : TypeId} {d : Kd α} {ok : α → Prop} {B : Nat} (ht : P.underlying t = some (.slice e)) (hc : P.cellsOf t = 1) (hB : P.bytesOf e = B) (he : Opens P e d ok) :
    Opens P t (Kd.slice e d) (fun l => l.length * B ≤ 140737488351232 ∧ ∀ x ∈ l, ok x) :=
  ⟨hc, by
    intro H enc w base spare held fuel cs x h hl
    rcases DataW.trod_slice ht h with ⟨rfl, rfl⟩ | ⟨a, len, cap, elems, rest, n, _, rfl, rfl, hb, hlc, hm, hlen, hel, _, _⟩
    · exact ⟨[], ⟨none, 0, rfl, Nat.le_refl _, rfl, by simp, fun h0 => by simp at h0⟩, by simp, by simp⟩
    · have key : ∀ i, i < len → ∃ v : α, (∃ cs', w.cells? base (a.add (i * P.cellsOf e)) (P.cellsOf e) = some cs' ∧ d.K w v cs') ∧ ok v := by
        intro i hi
        have h1 := hel i hi
        rw [List.getElem?_eq_getElem (by omega)] at h1
        obtain ⟨cs', h2, h3⟩ := Option.bind_eq_some_iff.1 h1
        obtain ⟨v, hv, ho⟩ := he.opens h3 (fun m hm2 => hl m (by
          simp only [DataW.weights, ht, List.mem_cons, List.mem_append]
          exact Or.inr (Or.inl (weightsAll_mem (j := i) (by simp [List.getElem?_eq_getElem (show i < elems.length by omega)]) m hm2))))
        exact ⟨v, ⟨cs', h2, hv⟩, ho⟩
      obtain ⟨l, hll, hp⟩ := list_of_lt len key
      have hw := hl _ (by
        simp only [DataW.weights, ht]
        exact List.mem_cons_self)
      rw [hB] at hw
      refine ⟨l, ⟨some a, cap, by rw [hll], by omega, rfl, by unfold maxLen at hm; omega, fun _ => ⟨a, rfl, ?_⟩⟩, ?_, ?_⟩
      · intro j p hj
        obtain ⟨⟨cs', h2, hv⟩, _⟩ := hp j p hj
        obtain ⟨_, h4, h5⟩ := World.cells?_some h2
        refine ⟨cs', d.K_len hv, hv, fun i u hu => ?_⟩
        have hi : i < P.cellsOf e := by
          rw [← h4]
          exact (List.getElem?_eq_some_iff.1 hu).1
        rw [← hu, ← h5 i hi, he.size]
        congr 1
        simp only [Addr.add]
        split <;> split <;> split <;> first | rfl | omega | (simp; omega) | simp_all
      · have h6 : len ≤ (elems.map (·.1)).length + (rest.map (·.1)).length := by simp; omega
        rw [hll]
        exact Nat.le_trans (Nat.mul_le_mul_right B h6) hw
      · intro x hx
        obtain ⟨j, hj⟩ := List.mem_iff_getElem?.1 hx
        exact (hp j x hj).2⟩

def Parts {α : Type} (P : Program) (fs : List Field) (off total : Nat) (d : Kd α) (ok : α → Prop) : Prop :=
  ∀ {H : Type} {enc : TypeId × Value → H} {w : World} {base : Nat} {spare : Nat → Bool} {held : Bool} {n : Nat} {cs : List Value} (xs : List (DataW H × List MemPlace)), cs.length = total → xs.length = fs.length →
    (∀ (i : Nat) (f : Field), fs[i]? = some f → DataW.trod enc P w base spare held n f.type ((cs.drop f.offset).take (P.cellsOf f.type)) = xs[i]?) →
    (∀ (i : Nat) (f : Field) y, fs[i]? = some f → xs[i]? = some y → Light P f.type y.1) → ∃ v, d.K w v (cs.drop off) ∧ ok v

theorem parts_one {α : Type} {P : Program} {f : Field} {off total : Nat} {d : Kd α} {ok : α → Prop} (he : Opens P f.type d ok) (ho : f.offset = off) (hs : off + d.sz = total) : Parts P [f] off total d ok := by
  intro H enc w base spare held n cs xs hl hx h hw
  match xs, hx with
  | [y], _ =>
    have h0 := h 0 f rfl
    obtain ⟨v, hv, hk⟩ := he.opens h0 (hw 0 f y rfl rfl)
    refine ⟨v, ?_, hk⟩
    rw [ho, List.take_of_length_le (by rw [List.length_drop, he.size]; omega)] at hv
    exact hv
theorem parts_cons {α β : Type} {P : Program} {f : Field} {fs : List Field} {off total : Nat} {d : Kd α} {d2 : Kd β} {ok : α → Prop} {ok2 : β → Prop} (he : Opens P f.type d ok) (ho : f.offset = off) (h2 : Parts P fs (off + d.sz) total d2 ok2) :
    Parts P (f :: fs) off total (Kd.pair d d2) (fun p => ok p.1 ∧ ok2 p.2) := by
  intro H enc w base spare held n cs xs hl hx h hw
  match xs, hx with
  | y :: ys, hy =>
    have h0 := h 0 f rfl
    obtain ⟨v, hv, hk⟩ := he.opens h0 (hw 0 f y rfl rfl)
    obtain ⟨u, hu, hk2⟩ := h2 ys hl (by simpa using hy) (fun i g hg => h (i + 1) g (by simpa using hg)) (fun i g z hg hz => hw (i + 1) g z (by simpa using hg) (by simpa using hz))
    refine ⟨(v, u), ⟨_, _, ?_, hv, hu⟩, hk, hk2⟩
    rw [ho, he.size, ← List.drop_drop]
    exact (List.take_append_drop d.sz (cs.drop off)).symm
theorem opens_struct {α β : Type} {P : Program} {t : TypeId} {fs : Array Field} {d : Kd α} {ok : α → Prop} (ht : P.underlying t = some (.struct fs)) (hc : P.cellsOf t = d.sz) (h2 : Parts P fs.toList 0 (P.cellsOf t) d ok) (f : β → α) (g : α → β) (hfg : ∀ v, f (g v) = v) :
    Opens P t (Kd.iso d f) (fun x => ok (f x)) :=
  ⟨hc, by
    intro H enc w base spare held fuel cs x h hl
    obtain ⟨xs, n, _, rfl, hcl, hxl, hf⟩ := DataW.trod_struct ht h
    obtain ⟨v, hv, hk⟩ := h2 (cs := cs) xs hcl (by simpa using hxl) (fun i fd hi => hf i fd (by simpa using hi)) (fun i fd y hi hy m hm => hl m (by
      simp only [DataW.weights, ht]
      exact DataW.weights_mem_each (j := i) (by rw [List.getElem?_map, hi]; rfl) (by rw [List.getElem?_map, hy]; rfl) m hm))
    refine ⟨g v, ?_, ?_⟩
    · show d.K w (f (g v)) cs
      rw [hfg]
      simpa using hv
    · show ok (f (g v))
      rw [hfg]
      exact hk⟩

theorem light_of {H : Type} {P : Program} {ts : List TypeId} {ds : List (DataW H)} (hsz : (DataW.weightsEach P ts ds).all (· ≤ reachBytes) = true) {j : Nat} {t : TypeId} {d : DataW H} (ht : ts[j]? = some t) (hd : ds[j]? = some d) : Light P t d := by
  intro n hn
  have h1 := List.all_eq_true.1 hsz n (DataW.weights_mem_each ht hd n hn)
  have h2 : n ≤ reachBytes := by simpa using h1
  exact Nat.le_trans h2 (by decide)
end Go.Proofs.Ytihfopblmjgfaaa.Open

/- The row of HeadsegQuants, out of its pure law (Pure.HeadsegQuants) and the contract of the function; no condition. Written by wip/tools/lawrow.py of this session. -/
namespace Go.Proofs.Ytihfopblmjgfaaa.headsegQuants
open Go.ChangeShapes Go.WideShapes Go.ChangeAt Go.RowKit Go.Proofs.Ytihfopblmjgfaaa.Q Go.Proofs.YtihfopblmjgfaaaW.PrintWords Go.Proofs.Ytihfopblmjgfaaa.Open
open Go.ChangeMaps (open_string shut_string)
set_option linter.unusedVariables false
theorem own : ownKnob Try.prog.godebug = none := by kernel_rfl
theorem laidOut : laidOutB Try.prog = true := by kernel_rfl
set_option maxRecDepth 100000 in
theorem o89 : Opens Try.prog 89 k89 (fun x => ((Lit.int .i64 x.f0).wf = true ∧ (Lit.int .i64 x.f1).wf = true)) := by
  have h := opens_struct (β := S89) Try.underlying89 (by kernel_rfl) (parts_cons (opens_int Try.underlying3 (by kernel_rfl)) rfl (parts_one (opens_int Try.underlying3 (by kernel_rfl)) rfl (by kernel_rfl))) (fun x => (x.f0, x.f1)) (fun v => ⟨v.1, v.2⟩) (fun _ => rfl)
  exact h
set_option maxRecDepth 100000 in
theorem lifted (os : Os) (started : os.Started) (H : Type) (enc : TypeId × Value → H) :
    ReturnsInHanded {} Try.checked os 5 .any (Rows.headsegQuantsSpec.pre6 enc Try.prog Try.f5 Rows.headsegQuantsRow.domain false) (Rows.headsegQuantsSpec.post enc Try.prog Try.f5 false true false false) := by
  refine returnsInHanded_of_change_sized (C := Try.checked) own started (by kernel_rfl) Try.func5
    (ChangeSpec.witness6 (enc := enc) (C := Try.checked) false ⟨#[], #[.agg #[.int .i64 0, .int .i64 0, .int .i64 0, .int .i64 0, .int .i64 0, .slice none 0 0, .int .i64 0, .int .i64 0, .bool false, .bool false, .bool false, .bool false, .bool false, .bool false, .bool false, .bool false, .slice none 0 0, .int .i64 0, .int .i64 0], .agg #[.int .i64 0, .slice none 0 0]], []⟩ 8 (by kernel_rfl) (by kernel_rfl) (by kernel_rfl) (by kernel_rfl)) ?_
  intro W base args ds gs before hval0 hW hcnd hsz0 _
  have hsz : (DataW.weightsEach Try.prog (Try.f5.params.toList ++ Rows.headsegQuantsSpec.plain.varTypes Try.prog) (ds ++ gs)).all (· ≤ reachBytes) = true := hsz0
  have hval : ∀ (j : Nat) t v, Try.f5.params[j]? = some t → args[j]? = some v → Value.okWide Try.prog W .any base t v := hval0
  have hW' := hW
  obtain ⟨p, q, hA0, hV, rfl, hfz, hnd⟩ := hW
  have hA : DataW.TrodAll enc Try.prog W 0 (fun _ => true) true Try.f5.params.toList args.toList ds p := hA0
  rw [Try.params5] at hA hval hsz
  obtain ⟨v0, vs0, d0, ds0, p0, q0, hargs, rfl, rfl, h0, r0⟩ := trodAll_cons hA
  obtain ⟨v1, vs1, d1, ds1, p1, q1, rfl, rfl, rfl, h1, r1⟩ := trodAll_cons r0
  obtain ⟨rfl, rfl, rfl⟩ := trodAll_nil r1
  obtain rfl : args = #[v0, v1] := by cases args; simp_all
  obtain ⟨rfl, rfl⟩ := trodVars_none hV
  have k0 := h0
  have lt0 : ∀ x ∈ p0, x.block < W.heap.size := by obtain ⟨m, hm⟩ := k0; exact DataW.trod_lt m _ _ _ hm
  have li0 := light_of hsz (j := 0) (t := 55) rfl rfl
  obtain ⟨fu0, hf0⟩ := h0
  obtain ⟨v0_, hK0, hok0⟩ := (opens_struct Try.underlying55 (by kernel_rfl) (parts_cons (opens_int Try.underlying48 (by kernel_rfl)) rfl (parts_cons (opens_int Try.underlying3 (by kernel_rfl)) rfl (parts_cons (opens_int Try.underlying49 (by kernel_rfl)) rfl (parts_cons (opens_int Try.underlying3 (by kernel_rfl)) rfl (parts_cons (opens_int Try.underlying3 (by kernel_rfl)) rfl (parts_cons (opens_slice (B := 16) Try.underlying50 (by kernel_rfl) (by kernel_rfl) o89) rfl (parts_cons (opens_int Try.underlying51 (by kernel_rfl)) rfl (parts_cons (opens_int Try.underlying3 (by kernel_rfl)) rfl (parts_cons (opens_struct Try.underlying53 (by kernel_rfl) (parts_cons (opens_bool Try.underlying4 (by kernel_rfl)) rfl (parts_cons (opens_bool Try.underlying4 (by kernel_rfl)) rfl (parts_cons (opens_bool Try.underlying4 (by kernel_rfl)) rfl (parts_cons (opens_bool Try.underlying4 (by kernel_rfl)) rfl (parts_one (opens_bool Try.underlying4 (by kernel_rfl)) rfl (by kernel_rfl)))))) (fun v => v) (fun v => v) (fun _ => rfl)) rfl (parts_cons (opens_bool Try.underlying4 (by kernel_rfl)) rfl (parts_cons (opens_bool Try.underlying4 (by kernel_rfl)) rfl (parts_cons (opens_bool Try.underlying4 (by kernel_rfl)) rfl (parts_cons (opens_slice (B := 8) Try.underlying39 (by kernel_rfl) (by kernel_rfl) (opens_int Try.underlying3 (by kernel_rfl))) rfl (parts_cons (opens_int Try.underlying3 (by kernel_rfl)) rfl (parts_one (opens_int Try.underlying3 (by kernel_rfl)) rfl (by kernel_rfl)))))))))))))))) (fun v => v) (fun v => v) (fun _ => rfl)).opens hf0 li0
  obtain ⟨cs0, rfl, _⟩ := okWide_struct Try.underlying55 (hval 0 55 v0 rfl rfl)
  obtain ⟨_, _, hcs0, rfl, ⟨_, _, rfl, rfl, ⟨_, _, rfl, rfl, ⟨_, _, rfl, rfl, ⟨_, _, rfl, rfl, ⟨_, _, rfl, ⟨A0_5, c0_5, rfl, hl0_5, hC0_5⟩, ⟨_, _, rfl, rfl, ⟨_, _, rfl, rfl, ⟨_, _, rfl, ⟨_, _, rfl, rfl, ⟨_, _, rfl, rfl, ⟨_, _, rfl, rfl, ⟨_, _, rfl, rfl, rfl⟩⟩⟩⟩, ⟨_, _, rfl, rfl, ⟨_, _, rfl, rfl, ⟨_, _, rfl, rfl, ⟨_, _, rfl, ⟨A0_16, c0_16, rfl, hl0_16, hC0_16⟩, ⟨_, _, rfl, rfl, rfl⟩⟩⟩⟩⟩⟩⟩⟩⟩⟩⟩⟩⟩⟩ := hK0
  obtain rfl : cs0 = #[.int .i64 v0_.1, .int .i64 v0_.2.1, .int .i64 v0_.2.2.1, .int .i64 v0_.2.2.2.1, .int .i64 v0_.2.2.2.2.1, .slice A0_5 v0_.2.2.2.2.2.1.length c0_5, .int .i64 v0_.2.2.2.2.2.2.1, .int .i64 v0_.2.2.2.2.2.2.2.1, .bool v0_.2.2.2.2.2.2.2.2.1.1, .bool v0_.2.2.2.2.2.2.2.2.1.2.1, .bool v0_.2.2.2.2.2.2.2.2.1.2.2.1, .bool v0_.2.2.2.2.2.2.2.2.1.2.2.2.1, .bool v0_.2.2.2.2.2.2.2.2.1.2.2.2.2, .bool v0_.2.2.2.2.2.2.2.2.2.1, .bool v0_.2.2.2.2.2.2.2.2.2.2.1, .bool v0_.2.2.2.2.2.2.2.2.2.2.2.1, .slice A0_16 v0_.2.2.2.2.2.2.2.2.2.2.2.2.1.length c0_16, .int .i64 v0_.2.2.2.2.2.2.2.2.2.2.2.2.2.1, .int .i64 v0_.2.2.2.2.2.2.2.2.2.2.2.2.2.2] := by cases cs0; simpa [Value.cells] using hcs0
  clear hcs0
  obtain ⟨w0_0, w0_1, w0_2, w0_3, w0_4, ⟨y0_5, w0_5⟩, w0_6, w0_7, ⟨_, _, _, _, _⟩, _, _, _, ⟨y0_16, w0_16⟩, w0_17, w0_18⟩ := hok0
  have k1 := h1
  have lt1 : ∀ x ∈ p1, x.block < W.heap.size := by obtain ⟨m, hm⟩ := k1; exact DataW.trod_lt m _ _ _ hm
  have li1 := light_of hsz (j := 1) (t := 26) rfl rfl
  obtain ⟨fu1, hf1⟩ := h1
  obtain ⟨v1_, hK1, hok1⟩ := (opens_struct Try.underlying26 (by kernel_rfl) (parts_cons (opens_int Try.underlying3 (by kernel_rfl)) rfl (parts_one (opens_slice (B := 1) Try.underlying24 (by kernel_rfl) (by kernel_rfl) (opens_int Try.underlying5 (by kernel_rfl))) rfl (by kernel_rfl))) (fun v => v) (fun v => v) (fun _ => rfl)).opens hf1 li1
  obtain ⟨cs1, rfl, _⟩ := okWide_struct Try.underlying26 (hval 1 26 v1 rfl rfl)
  obtain ⟨_, _, hcs1, rfl, ⟨A1_1, c1_1, rfl, hl1_1, hC1_1⟩⟩ := hK1
  obtain rfl : cs1 = #[.int .i64 v1_.1, .slice A1_1 v1_.2.length c1_1] := by cases cs1; simpa [Value.cells] using hcs1
  clear hcs1
  obtain ⟨w1_0, ⟨y1_1, w1_1⟩⟩ := hok1
  clear hA0 hval0 hsz0 hsz
  obtain ⟨k, hp⟩ := Pure.HeadsegQuants (v0_.1) (v0_.2.1) (v0_.2.2.1) (v0_.2.2.2.1) (v0_.2.2.2.2.1) (v0_.2.2.2.2.2.1) (v0_.2.2.2.2.2.2.1) (v0_.2.2.2.2.2.2.2.1) (v0_.2.2.2.2.2.2.2.2.1.1) (v0_.2.2.2.2.2.2.2.2.1.2.1) (v0_.2.2.2.2.2.2.2.2.1.2.2.1) (v0_.2.2.2.2.2.2.2.2.1.2.2.2.1) (v0_.2.2.2.2.2.2.2.2.1.2.2.2.2) (v0_.2.2.2.2.2.2.2.2.2.1) (v0_.2.2.2.2.2.2.2.2.2.2.1) (v0_.2.2.2.2.2.2.2.2.2.2.2.1) (v0_.2.2.2.2.2.2.2.2.2.2.2.2.1) (v0_.2.2.2.2.2.2.2.2.2.2.2.2.2.1) (v0_.2.2.2.2.2.2.2.2.2.2.2.2.2.2) (v1_.1) (v1_.2) w0_0 w0_1 w0_2 w0_3 w0_4 y0_5 w0_5 w0_6 w0_7 y0_16 w0_16 w0_17 w0_18 w1_0 y1_1 w1_1
  refine (waveletlaw29_HeadsegQuants.calls k (v0_.1) (v0_.2.1) (v0_.2.2.1) (v0_.2.2.2.1) (v0_.2.2.2.2.1) _ _ (v0_.2.2.2.2.2.1) (v0_.2.2.2.2.2.2.1) (v0_.2.2.2.2.2.2.2.1) (v0_.2.2.2.2.2.2.2.2.1.1) (v0_.2.2.2.2.2.2.2.2.1.2.1) (v0_.2.2.2.2.2.2.2.2.1.2.2.1) (v0_.2.2.2.2.2.2.2.2.1.2.2.2.1) (v0_.2.2.2.2.2.2.2.2.1.2.2.2.2) (v0_.2.2.2.2.2.2.2.2.2.1) (v0_.2.2.2.2.2.2.2.2.2.2.1) (v0_.2.2.2.2.2.2.2.2.2.2.2.1) _ _ (v0_.2.2.2.2.2.2.2.2.2.2.2.2.1) (v0_.2.2.2.2.2.2.2.2.2.2.2.2.2.1) (v0_.2.2.2.2.2.2.2.2.2.2.2.2.2.2) (v1_.1) _ _ (v1_.2) true rfl W hC0_5 hl0_5 hC0_16 hl0_16 hC1_1 hl1_1 hp).mono fun e W' he_ => ?_
  obtain ⟨he, bel⟩ := he_
  subst he
  exact ⟨_, rfl, _, _, _, [], _, [], hW', trodAll_mk1 (shut_bool Try.underlying4 _), (trodAll_cons_mk (Below.trod laidOut (by kernel_rfl) (of_decide_eq_true (by kernel_rfl)) k0 bel lt0) (trodAll_cons_mk (Below.trod laidOut (by kernel_rfl) (of_decide_eq_true (by kernel_rfl)) k1 bel lt1) trodAll_mk0)), rfl, bel.frame _, fun h => by cases h⟩
theorem over : Rows.headsegQuantsRow.holds Try.pinned (OpenSpec.ofChange Rows.headsegQuantsSpec) :=
  OpenClaim.holds_of_wide 5 Try.f5 rfl rfl rfl rfl rfl rfl rfl ⟨rfl, rfl, rfl, rfl, rfl⟩ rfl rfl rfl rfl rfl (by kernel_rfl) Try.func5 (by kernel_rfl)
    (of_decide_eq_true (by kernel_rfl)) (by unfold Func.isWrapper; first | (rw [if_pos (by decide +kernel)]; kernel_rfl) | (rw [if_neg (by decide +kernel)]; exact ⟨rfl, rfl⟩))
    (fun os started H enc _ => lifted os started H enc)
theorem proved : Rows.HeadsegQuantsSaid := over
end Go.Proofs.Ytihfopblmjgfaaa.headsegQuants
namespace Go.Proofs.Ytihfopblmjgfaaa
/-- The row, under a short name, for the claim. -/
theorem headsegQuants_holds : Rows.HeadsegQuantsSaid := headsegQuants.proved
#print axioms headsegQuants_holds
end Go.Proofs.Ytihfopblmjgfaaa
