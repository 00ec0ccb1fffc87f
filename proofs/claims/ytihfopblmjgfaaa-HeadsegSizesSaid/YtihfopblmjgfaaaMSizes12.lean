/- HeadsegSizes: Size and ParseSize return the defined segment, header or errors. No condition beside the statement's own. Texts of this session, merged by wip/tools/merge.py. -/
import Derived.Test.YtihfopblmjgfaaaMSizes11
import Derived.Test.YtihfopblmjgfaaaMSizes0
import Derived.ChangeArms
import Derived.SizedLaws
import Derived.Test.YtihfopblmjgfaaaRows
import Derived.WalkKit
import Derived.ProofKit
import Derived.OpenShut
import Derived.ShutString
import Derived.ChangeOld
import Derived.Below
import Derived.Carry
/- HeadsegSizes: Size and ParseSize return the defined segment, header or errors. No condition beside the statement's own. -/
namespace Go.Proofs.Ytihfopblmjgfaaa.Pure
open Go.RowKit Go.Proofs.Ytihfopblmjgfaaa.Q Go.Proofs.YtihfopblmjgfaaaW.PrintWords
set_option linter.unusedVariables false
set_option maxRecDepth 100000
def zeroH (e : Int) : Int × Int × Int × Int × Int × Int × List S97 × Int := (0, 0, 0, 0, 0, 0, [], e)
/-- What ParseSize returns, r the answer of the header's check. -/
def PSizeF (r c : Int) (l : List Int) : Int × Int × Int × Int × Int × Int × List S97 × Int :=
  if c = 65441 then (if 13 ≤ l.length ∧ 13 + 3 * cnt l ≤ l.length then (if 13 + 3 * cnt l < l.length then zeroH 9 else if r = 0 then ((head6 l).1, (head6 l).2.1, (head6 l).2.2.1, (head6 l).2.2.2.1, (head6 l).2.2.2.2.1, (head6 l).2.2.2.2.2, compsAt l 13 (cnt l), 0) else zeroH r) else zeroH 7) else zeroH 11
theorem cnt_le {l : List Int} (hb : ∀ x ∈ l, (Lit.int .u8 x).wf = true) (h : 13 ≤ l.length) : cnt l ≤ 255 ∧ l[12] = (cnt l : Int) := by
  obtain ⟨b0, b1⟩ := wf_u8 (hb _ (List.getElem_mem (show 12 < l.length by omega)))
  unfold cnt
  rw [getD_at 12 (by omega)]
  omega
theorem psize_ev {l : List Int} (hb : ∀ x ∈ l, (Lit.int .u8 x).wf = true) (hl : l.length ≤ 1000000) (c : Int) {r : Int} (h : Ev (fun k => params_Header.f k (head6 l).1 (head6 l).2.1 (head6 l).2.2.1 (head6 l).2.2.2.1 (head6 l).2.2.2.2.1 (head6 l).2.2.2.2.2 (compsAt l 13 (cnt l))) r) :
    Ev (fun k => headseg_ParseSize.f k c l) (PSizeF r c l) := by
  refine Ev.congr (fun k => headseg_ParseSize.f.eq_1 ..) (Ev.bind (sizeRead_ev hb hl) ?_)
  unfold PSizeF
  by_cases hc : c = 65441
  · rw [if_pos hc]
    refine Ev.pos hc ?_
    by_cases h1 : 13 ≤ l.length ∧ 13 + 3 * cnt l ≤ l.length
    · rw [if_pos h1, if_pos h1]
      refine Ev.pos rfl ?_
      by_cases h2 : 13 + 3 * cnt l < l.length
      · rw [if_pos h2]
        exact Ev.pos (show ((13 + 3 * cnt l : Nat) : Int) < (l.length : Int) by omega) (Ev.now _)
      · rw [if_neg h2]
        refine Ev.neg (show ¬ ((13 + 3 * cnt l : Nat) : Int) < (l.length : Int) by omega) (Ev.bind h ?_)
        by_cases h3 : r = 0
        · rw [if_pos h3, if_pos h3]; exact Ev.now _
        · rw [if_neg h3, if_neg h3]; exact Ev.now _
    · rw [if_neg h1, if_neg h1]
      exact Ev.neg (by simp [badSize]) (Ev.now _)
  · rw [if_neg hc]
    exact Ev.neg hc (Ev.now _)
theorem rpsize_loop {l : List Int} (hb : ∀ x ∈ l, (Lit.int .u8 x).wf = true) (hl : l.length ≤ 1000000) (a b c d tw th : Int) {r : Int} (n0 : Nat) (hlen : l.length = 13 + 3 * n0)
    (h : Ev (fun k => waveletref23_Header.f k a b c d tw th (compsAt l 13 n0)) r) (n : Nat) : ∀ (i : Nat) (xs : List S97), i + n = n0 → xs.length ≤ i → xs ++ compsAt l (13 + 3 * i) n = compsAt l 13 n0 →
    Ev (fun k => waveletref29_ParseSize.l0 k ((13 + 3 * n0 : Nat) : Int) l ((13 + 3 * i : Nat) : Int) a b c d tw th xs) (if r = 0 then (a, b, c, d, tw, th, compsAt l 13 n0, 0) else zeroH r) := by
  induction n with
  | zero =>
    intro i xs hi hx he
    have he' : xs = compsAt l 13 n0 := by simpa [compsAt] using he
    subst he'
    refine Ev.step (fun k => waveletref29_ParseSize.l0.eq_2 ..) (Ev.neg (by omega) (Ev.bind h ?_))
    by_cases h3 : r = 0
    · exact Ev.pos h3 (by rw [if_pos h3]; exact Ev.now _)
    · exact Ev.neg h3 (by rw [if_neg h3]; exact Ev.now _)
  | succ n ih =>
    intro i xs hi hx he
    have e1 : wrap64 (((13 + 3 * i : Nat) : Int) + 1) = ((13 + 3 * i + 1 : Nat) : Int) := by unfold wrap64; omega
    have e2 : wrap64 (((13 + 3 * i : Nat) : Int) + 2) = ((13 + 3 * i + 2 : Nat) : Int) := by unfold wrap64; omega
    have e3 : wrap64 (((13 + 3 * i : Nat) : Int) + 3) = ((13 + 3 * (i + 1) : Nat) : Int) := by unfold wrap64; omega
    obtain ⟨q0, b0, b1⟩ := rd_bytes hb (13 + 3 * i) (by omega)
    obtain ⟨q1, c0, c1⟩ := rd_bytes hb (13 + 3 * i + 1) (by omega)
    obtain ⟨q2, d0, d1⟩ := rd_bytes hb (13 + 3 * i + 2) (by omega)
    have hcomp : (⟨wrap64 ((Int.tmod (wrap64 l[13 + 3 * i]) 128) + 1), decide (l[13 + 3 * i] ≥ 128), wrap64 l[13 + 3 * i + 1], wrap64 l[13 + 3 * i + 2]⟩ : S97) = compAt l (13 + 3 * i) := by
      unfold compAt
      rw [getD_at (13 + 3 * i) (by omega), getD_at (13 + 3 * i + 1) (by omega), getD_at (13 + 3 * i + 2) (by omega)]
      rw [show wrap64 l[13 + 3 * i] = l[13 + 3 * i] by unfold wrap64; omega, show wrap64 l[13 + 3 * i + 1] = l[13 + 3 * i + 1] by unfold wrap64; omega, show wrap64 l[13 + 3 * i + 2] = l[13 + 3 * i + 2] by unfold wrap64; omega]
      rw [Int.tmod_eq_emod_of_nonneg b0, show wrap64 (l[13 + 3 * i] % 128 + 1) = l[13 + 3 * i] % 128 + 1 by unfold wrap64; omega]
    refine Ev.step (fun k => waveletref29_ParseSize.l0.eq_2 ..) (Ev.pos (by omega) (Ev.pos (by omega) (Ev.pos (by omega) ?_)))
    rw [e1, e2, e3, q0, q1, q2, hcomp]
    refine Ev.pos (by omega) (Ev.pos (by omega) (Ev.pos (by omega) (Ev.pos (by omega) (Ev.pos (by omega) ?_))))
    refine ih (i + 1) _ (by omega) (by simp; omega) ?_
    simpa [compsAt, show 13 + 3 * i + 3 = 13 + 3 * (i + 1) by omega] using he
theorem rpsize_ev {l : List Int} (hb : ∀ x ∈ l, (Lit.int .u8 x).wf = true) (hl : l.length ≤ 1000000) (c : Int) {r : Int} (h : Ev (fun k => waveletref23_Header.f k (head6 l).1 (head6 l).2.1 (head6 l).2.2.1 (head6 l).2.2.2.1 (head6 l).2.2.2.2.1 (head6 l).2.2.2.2.2 (compsAt l 13 (cnt l))) r) :
    Ev (fun k => waveletref29_ParseSize.f k c l) (PSizeF r c l) := by
  refine Ev.congr (fun k => waveletref29_ParseSize.f.eq_1 ..) ?_
  unfold PSizeF
  by_cases h13 : 13 ≤ l.length
  rotate_left
  · rw [if_neg (show ¬ (13 ≤ l.length ∧ 13 + 3 * cnt l ≤ l.length) by omega)]
    refine Ev.neg (by omega) (Ev.step (fun k => waveletref29_ParseSize.j0.eq_2 ..) ?_)
    rw [framed_eq]
    simp only [Option.bind_some]
    by_cases hc : c = 65441
    · rw [if_pos hc, if_pos hc, if_pos (show (l.length : Int) < 13 by omega)]
      exact Ev.neg (by omega) (Ev.now _)
    · rw [if_neg hc, if_neg hc]
      exact Ev.neg (by omega) (Ev.now _)
  obtain ⟨hcn, h12⟩ := cnt_le hb h13
  have hr12 : rd l 12 = (cnt l : Int) := by
    have := (rd_bytes hb 12 (by omega)).1
    rw [← h12]
    exact this
  refine Ev.pos (by omega) (Ev.pos (by omega) ?_)
  rw [hr12, show wrap64 (13 + wrap64 (3 * wrap64 (cnt l : Int))) = ((13 + 3 * cnt l : Nat) : Int) by unfold wrap64; omega]
  refine Ev.step (fun k => waveletref29_ParseSize.j0.eq_2 ..) ?_
  rw [framed_eq]
  simp only [Option.bind_some]
  by_cases hc : c = 65441
  rotate_left
  · rw [if_neg hc, if_neg hc]
    exact Ev.neg (by omega) (Ev.now _)
  rw [if_pos hc, if_pos hc]
  by_cases h1 : 13 + 3 * cnt l ≤ l.length
  rotate_left
  · rw [if_neg (show ¬ (13 ≤ l.length ∧ 13 + 3 * cnt l ≤ l.length) by omega), if_pos (show (l.length : Int) < ((13 + 3 * cnt l : Nat) : Int) by omega)]
    exact Ev.neg (by omega) (Ev.now _)
  rw [if_pos (show 13 ≤ l.length ∧ 13 + 3 * cnt l ≤ l.length from ⟨h13, h1⟩), if_neg (show ¬ (l.length : Int) < ((13 + 3 * cnt l : Nat) : Int) by omega)]
  by_cases h2 : 13 + 3 * cnt l < l.length
  · rw [if_pos h2, if_pos (show (l.length : Int) > ((13 + 3 * cnt l : Nat) : Int) by omega)]
    exact Ev.neg (by omega) (Ev.now _)
  rw [if_neg h2, if_neg (show ¬ (l.length : Int) > ((13 + 3 * cnt l : Nat) : Int) by omega)]
  refine Ev.pos rfl (Ev.bind (ev_get hb hl 0 2 (by omega) (by omega)) (Ev.bind (ev_get hb hl 2 2 (by omega) (by omega)) (Ev.bind (ev_get hb hl 4 2 (by omega) (by omega)) (Ev.bind (ev_get hb hl 6 2 (by omega) (by omega)) (Ev.bind (ev_get hb hl 8 2 (by omega) (by omega)) (Ev.bind (ev_get hb hl 10 2 (by omega) (by omega)) ?_))))))
  exact rpsize_loop hb hl _ _ _ _ _ _ (cnt l) (by omega) h (cnt l) 0 [] (by omega) (by simp) (by simp)
theorem PSizeF_comps (r c : Int) {l : List Int} (hb : ∀ x ∈ l, (Lit.int .u8 x).wf = true) : (PSizeF r c l).2.2.2.2.2.2.1.length ≤ 100000 := by
  unfold PSizeF
  split
  · split
    · split
      · simp [zeroH]
      · split
        · rename_i h _ _
          have := (cnt_le hb h.1).1
          simp only [compsAt_length]
          omega
        · simp [zeroH]
    · simp [zeroH]
  · simp [zeroH]
theorem HeadsegSizes (a0_0 : Int) (a0_1 : Int) (a0_2 : Int) (a0_3 : Int) (a0_4 : Int) (a0_5 : Int) (l0_6 : List (S97)) (a1_0 : Int) (l1_1 : List (Int)) (w0_0 : (Lit.int .i64 a0_0).wf = true) (w0_1 : (Lit.int .i64 a0_1).wf = true) (w0_2 : (Lit.int .i64 a0_2).wf = true) (w0_3 : (Lit.int .i64 a0_3).wf = true) (w0_4 : (Lit.int .i64 a0_4).wf = true) (w0_5 : (Lit.int .i64 a0_5).wf = true) (y0_6 : l0_6.length * 32 ≤ 140737488351232) (w0_6 : ∀ x ∈ l0_6, ((Lit.int .i64 x.f0).wf = true ∧ True ∧ (Lit.int .i64 x.f2).wf = true ∧ (Lit.int .i64 x.f3).wf = true)) (w1_0 : (Lit.int .i64 a1_0).wf = true) (y1_1 : l1_1.length * 1 ≤ 140737488351232) (w1_1 : ∀ x ∈ l1_1, (Lit.int .u8 x).wf = true) : ∃ k, waveletlaw29_HeadsegSizes.f k a0_0 a0_1 a0_2 a0_3 a0_4 a0_5 l0_6 a1_0 l1_1 = some true := by
  refine Ev.rounds (Ev.congr (fun k => waveletlaw29_HeadsegSizes.f.eq_1 ..) ?_)
  have ht : Ev (fun k => waveletlaw29_HeadsegSizes.j0 k true a0_0 a0_1 a0_2 a0_3 a0_4 a0_5 l0_6 a1_0 l1_1) true := Ev.step (fun k => waveletlaw29_HeadsegSizes.j0.eq_2 ..) (Ev.pos rfl (Ev.bind ev_awake (Ev.now _)))
  by_cases h1 : (l0_6.length : Int) > 10
  · exact Ev.pos h1 ht
  refine Ev.neg h1 ?_
  simp only [waveletlaw29_long.f, Option.bind_some]
  by_cases h2 : (l1_1.length : Int) > 70000
  · rw [decide_eq_true h2]; exact ht
  rw [decide_eq_false h2]
  have hl : l1_1.length ≤ 1000000 := by omega
  obtain ⟨r, q1, q2⟩ := header_both a0_0 a0_1 a0_2 a0_3 a0_4 a0_5 l0_6 (by omega)
  have hcl : (compsAt l1_1 13 (cnt l1_1)).length ≤ 100000 := by
    rw [compsAt_length]
    by_cases h13 : 13 ≤ l1_1.length
    · have := (cnt_le w1_1 h13).1; omega
    · unfold cnt
      rw [List.getD_eq_getElem?_getD, List.getElem?_eq_none (by omega)]
      simp
  obtain ⟨r', p1, p2⟩ := header_both (head6 l1_1).1 (head6 l1_1).2.1 (head6 l1_1).2.2.1 (head6 l1_1).2.2.2.1 (head6 l1_1).2.2.2.2.1 (head6 l1_1).2.2.2.2.2 (compsAt l1_1 13 (cnt l1_1)) hcl
  refine Ev.step (fun k => waveletlaw29_HeadsegSizes.j0.eq_2 ..) (Ev.neg (by simp) (Ev.bind (size_ev _ _ _ _ _ _ _ (by omega) q1) (Ev.bind (rsize_ev _ _ _ _ _ _ _ (by omega) q2) (Ev.bind (psize_ev w1_1 hl a1_0 p1) (Ev.bind (rpsize_ev w1_1 hl a1_0 p2) (Ev.bind (ev_sameSegment _ _ (by have := SizeF_length r a0_0 a0_1 a0_2 a0_3 a0_4 a0_5 l0_6 (by omega); omega)) (Ev.pos rfl (Ev.pos rfl (Ev.bind (ev_sameHeader _ _ _ _ _ _ _ (PSizeF_comps r' a1_0 w1_1)) (Ev.pos rfl (Ev.pos rfl (Ev.bind ev_awake (Ev.now _)))))))))))))
end Go.Proofs.Ytihfopblmjgfaaa.Pure

/- How an argument of a law is opened as a value of a printed kind, for any type that is built of integers, bools, strings, slices and structs: 'Opens P t d ok' says that what reads as data of type t holds the cells of some v of kind d, with ok v. -/
namespace Go.Proofs.Ytihfopblmjgfaaa.Open
open Go.RowKit Go.Proofs.YtihfopblmjgfaaaW.PrintWords

def Light {H : Type} (P : Program) (t : TypeId) (d : DataW H) : Prop := ∀ n ∈ d.weights P t, n ≤ 140737488351232

structure Opens {α : Type} (P : Program) (t : TypeId) (d : Kd α) (ok : α → Prop) : Prop where
  size : P.cellsOf t = d.sz
  opens : ∀ {H : Type} {enc : TypeId × Value → H} {w : World} {base : Nat} {spare : Nat → Bool} {held : Bool} {fuel : Nat} {cs : List Value} {x : DataW H × List MemPlace},
    DataW.trod enc P w base spare held fuel t cs = some x → Light P t x.1 → ∃ v, d.K w v cs ∧ ok v

theorem opens_int {P : Program} {t : TypeId} {k : IntKind} (ht : P.underlying t = some (.int k)) (hc : P.cellsOf t = 1) : Opens P t (Kd.int k) (fun n => (Lit.int k n).wf = true) :=
  ⟨hc, fun h _ => by
    obtain ⟨n, rfl, _, hw⟩ := DataW.trod_int ht h
    exact ⟨n, rfl, hw⟩⟩
theorem opens_bool {P : Program} {t : TypeId} (ht : P.underlying t = some .bool) (hc : P.cellsOf t = 1) : Opens P t Kd.bool (fun _ => True) :=
  ⟨hc, fun h _ => by
    obtain ⟨b, rfl, _⟩ := DataW.trod_bool ht h
    exact ⟨b, rfl, trivial⟩⟩
theorem opens_string {P : Program} {t : TypeId} (ht : P.underlying t = some .string) (hc : P.cellsOf t = 1) : Opens P t Kd.string (fun s => s.size ≤ 140737488351232) :=
  ⟨hc, fun h hl => by
    obtain ⟨s, rfl, rfl, _⟩ := DataW.trod_string ht h
    refine ⟨s, rfl, ?_⟩
    have := hl s.data.toList.length (by simp [DataW.weights])
    simpa using this⟩

theorem list_of_lt {α : Type} {p : Nat → α → Prop} : ∀ (n : Nat), (∀ i, i < n → ∃ v, p i v) → ∃ l : List α, l.length = n ∧ ∀ i v, l[i]? = some v → p i v
  | 0, _ => ⟨[], rfl, fun i v h => by simp at h⟩
  | n + 1, h => by
    obtain ⟨l, hl, hp⟩ := list_of_lt n (fun i hi => h i (by omega))
    obtain ⟨v, hv⟩ := h n (by omega)
    refine ⟨l ++ [v], by simp [hl], fun i u hu => ?_⟩
    rcases Nat.lt_or_ge i n with hi | hi
    · rw [List.getElem?_append_left (by omega)] at hu
      exact hp i u hu
    · rw [List.getElem?_append_right (by omega), hl] at hu
      have hi0 : i - n = 0 := by
        rcases Nat.eq_zero_or_pos (i - n) with h0 | h0
        · exact h0
        · rw [List.getElem?_eq_none (by simp; omega)] at hu
          cases hu
      rw [hi0] at hu
      have : i = n := by omega
      subst this
      have e : v = u := by simpa using hu
      subst e
      exact hv

theorem weightsAll_mem {H : Type} {P : Program} {e : TypeId} : ∀ {ds : List (DataW H)} {j : Nat} {d : DataW H}, ds[j]? = some d → ∀ n ∈ d.weights P e, n ∈ DataW.weightsAll P e ds
  | d0 :: ds, 0, d, hd, n, hn => by
    simp only [List.getElem?_cons_zero, Option.some.injEq] at hd
    subst hd
    simp only [DataW.weightsAll, List.mem_append]
    exact Or.inl hn
  | d0 :: ds, j + 1, d, hd, n, hn => by
    simp only [List.getElem?_cons_succ] at hd
    simp only [DataW.weightsAll, List.mem_append]
    exact Or.inr (weightsAll_mem hd n hn)
  | [], _, _, hd, _, _ => by simp at hd

theorem opens_slice {α : Type} {P : Program} {t e : TypeId} {d : Kd α} {ok : α → Prop} {B : Nat} (ht : P.underlying t = some (.slice e)) (hc : P.cellsOf t = 1) (hB : P.bytesOf e = B) (he : Opens P e d ok) :
    Opens P t (Kd.slice e d) (fun l => l.length * B ≤ 140737488351232 ∧ ∀ x ∈ l, ok x) :=
  ⟨hc, by
    intro H enc w base spare held fuel cs x h hl
    rcases DataW.trod_slice ht h with ⟨rfl, rfl⟩ | ⟨a, len, cap, elems, rest, n, _, rfl, rfl, hb, hlc, hm, hlen, hel, _, _⟩
    · exact ⟨[], ⟨none, 0, rfl, Nat.le_refl _, rfl, by simp, fun h0 => by simp at h0⟩, by simp, by simp⟩
    · have key : ∀ i, i < len → ∃ v : α, (∃ cs', w.cells? base (a.add (i * P.cellsOf e)) (P.cellsOf e) = some cs' ∧ d.K w v cs') ∧ ok v := by
        intro i hi
        have h1 := hel i hi
        rw [List.getElem?_eq_getElem (by omega)] at h1
        obtain ⟨cs', h2, h3⟩ := Option.bind_eq_some_iff.1 h1
        obtain ⟨v, hv, ho⟩ := he.opens h3 (fun m hm2 => hl m (by
          simp only [DataW.weights, ht, List.mem_cons, List.mem_append]
          exact Or.inr (Or.inl (weightsAll_mem (j := i) (by simp [List.getElem?_eq_getElem (show i < elems.length by omega)]) m hm2))))
        exact ⟨v, ⟨cs', h2, hv⟩, ho⟩
      obtain ⟨l, hll, hp⟩ := list_of_lt len key
      have hw := hl _ (by
        simp only [DataW.weights, ht]
        exact List.mem_cons_self)
      rw [hB] at hw
      refine ⟨l, ⟨some a, cap, by rw [hll], by omega, rfl, by unfold maxLen at hm; omega, fun _ => ⟨a, rfl, ?_⟩⟩, ?_, ?_⟩
      · intro j p hj
        obtain ⟨⟨cs', h2, hv⟩, _⟩ := hp j p hj
        obtain ⟨_, h4, h5⟩ := World.cells?_some h2
        refine ⟨cs', d.K_len hv, hv, fun i u hu => ?_⟩
        have hi : i < P.cellsOf e := by
          rw [← h4]
          exact (List.getElem?_eq_some_iff.1 hu).1
        rw [← hu, ← h5 i hi, he.size]
        congr 1
        simp only [Addr.add]
        split <;> split <;> split <;> first | rfl | omega | (simp; omega) | simp_all
      · have h6 : len ≤ (elems.map (·.1)).length + (rest.map (·.1)).length := by simp; omega
        rw [hll]
        exact Nat.le_trans (Nat.mul_le_mul_right B h6) hw
      · intro x hx
        obtain ⟨j, hj⟩ := List.mem_iff_getElem?.1 hx
        exact (hp j x hj).2⟩

def Parts {α : Type} (P : Program) (fs : List Field) (off total : Nat) (d : Kd α) (ok : α → Prop) : Prop :=
  ∀ {H : Type} {enc : TypeId × Value → H} {w : World} {base : Nat} {spare : Nat → Bool} {held : Bool} {n : Nat} {cs : List Value} (xs : List (DataW H × List MemPlace)), cs.length = total → xs.length = fs.length →
    (∀ (i : Nat) (f : Field), fs[i]? = some f → DataW.trod enc P w base spare held n f.type ((cs.drop f.offset).take (P.cellsOf f.type)) = xs[i]?) →
    (∀ (i : Nat) (f : Field) y, fs[i]? = some f → xs[i]? = some y → Light P f.type y.1) → ∃ v, d.K w v (cs.drop off) ∧ ok v

theorem parts_one {α : Type} {P : Program} {f : Field} {off total : Nat} {d : Kd α} {ok : α → Prop} (he : Opens P f.type d ok) (ho : f.offset = off) (hs : off + d.sz = total) : Parts P [f] off total d ok := by
  intro H enc w base spare held n cs xs hl hx h hw
  match xs, hx with
  | [y], _ =>
    have h0 := h 0 f rfl
    obtain ⟨v, hv, hk⟩ := he.opens h0 (hw 0 f y rfl rfl)
    refine ⟨v, ?_, hk⟩
    rw [ho, List.take_of_length_le (by rw [List.length_drop, he.size]; omega)] at hv
    exact hv
theorem parts_cons {α β : Type} {P : Program} {f : Field} {fs : List Field} {off total : Nat} {d : Kd α} {d2 : Kd β} {ok : α → Prop} {ok2 : β → Prop} (he : Opens P f.type d ok) (ho : f.offset = off) (h2 : Parts P fs (off + d.sz) total d2 ok2) :
    Parts P (f :: fs) off total (Kd.pair d d2) (fun p => ok p.1 ∧ ok2 p.2) := by
  intro H enc w base spare held n cs xs hl hx h hw
  match xs, hx with
  | y :: ys, hy =>
    have h0 := h 0 f rfl
    obtain ⟨v, hv, hk⟩ := he.opens h0 (hw 0 f y rfl rfl)
    obtain ⟨u, hu, hk2⟩ := h2 ys hl (by simpa using hy) (fun i g hg => h (i + 1) g (by simpa using hg)) (fun i g z hg hz => hw (i + 1) g z (by simpa using hg) (by simpa using hz))
    refine ⟨(v, u), ⟨_, _, ?_, hv, hu⟩, hk, hk2⟩
    rw [ho, he.size, ← List.drop_drop]
    exact (List.take_append_drop d.sz (cs.drop off)).symm
theorem opens_struct {α β : Type} {P : Program} {t : TypeId} {fs : Array Field} {d : Kd α} {ok : α → Prop} (ht : P.underlying t = some (.struct fs)) (hc : P.cellsOf t = d.sz) (h2 : Parts P fs.toList 0 (P.cellsOf t) d ok) (f : β → α) (g : α → β) (hfg : ∀ v, f (g v) = v) :
    Opens P t (Kd.iso d f) (fun x => ok (f x)) :=
  ⟨hc, by
    intro H enc w base spare held fuel cs x h hl
    obtain ⟨xs, n, _, rfl, hcl, hxl, hf⟩ := DataW.trod_struct ht h
    obtain ⟨v, hv, hk⟩ := h2 (cs := cs) xs hcl (by simpa using hxl) (fun i fd hi => hf i fd (by simpa using hi)) (fun i fd y hi hy m hm => hl m (by
      simp only [DataW.weights, ht]
      exact DataW.weights_mem_each (j := i) (by rw [List.getElem?_map, hi]; rfl) (by rw [List.getElem?_map, hy]; rfl) m hm))
    refine ⟨g v, ?_, ?_⟩
    · show d.K w (f (g v)) cs
      rw [hfg]
      simpa using hv
    · show ok (f (g v))
      rw [hfg]
      exact hk⟩

theorem light_of {H : Type} {P : Program} {ts : List TypeId} {ds : List (DataW H)} (hsz : (DataW.weightsEach P ts ds).all (· ≤ reachBytes) = true) {j : Nat} {t : TypeId} {d : DataW H} (ht : ts[j]? = some t) (hd : ds[j]? = some d) : Light P t d := by
  intro n hn
  have h1 := List.all_eq_true.1 hsz n (DataW.weights_mem_each ht hd n hn)
  have h2 : n ≤ reachBytes := by simpa using h1
  exact Nat.le_trans h2 (by decide)
end Go.Proofs.Ytihfopblmjgfaaa.Open

/- The row of HeadsegSizes, out of its pure law (Pure.HeadsegSizes) and the contract of the function; no condition. Written by wip/tools/lawrow.py of this session. -/
namespace Go.Proofs.Ytihfopblmjgfaaa.headsegSizes
open Go.ChangeShapes Go.WideShapes Go.ChangeAt Go.RowKit Go.Proofs.Ytihfopblmjgfaaa.Q Go.Proofs.YtihfopblmjgfaaaW.PrintWords Go.Proofs.Ytihfopblmjgfaaa.Open
open Go.ChangeMaps (open_string shut_string)
set_option linter.unusedVariables false
theorem own : ownKnob Try.prog.godebug = none := by kernel_rfl
theorem laidOut : laidOutB Try.prog = true := by kernel_rfl
set_option maxRecDepth 100000 in
theorem o97 : Opens Try.prog 97 k97 (fun x => ((Lit.int .i64 x.f0).wf = true ∧ True ∧ (Lit.int .i64 x.f2).wf = true ∧ (Lit.int .i64 x.f3).wf = true)) := by
  have h := opens_struct (β := S97) Try.underlying97 (by kernel_rfl) (parts_cons (opens_int Try.underlying3 (by kernel_rfl)) rfl (parts_cons (opens_bool Try.underlying4 (by kernel_rfl)) rfl (parts_cons (opens_int Try.underlying3 (by kernel_rfl)) rfl (parts_one (opens_int Try.underlying3 (by kernel_rfl)) rfl (by kernel_rfl))))) (fun x => (x.f0, x.f1, x.f2, x.f3)) (fun v => ⟨v.1, v.2.1, v.2.2.1, v.2.2.2⟩) (fun _ => rfl)
  exact h
set_option maxRecDepth 100000 in
theorem lifted (os : Os) (started : os.Started) (H : Type) (enc : TypeId × Value → H) :
    ReturnsInHanded {} Try.checked os 8 .any (Rows.headsegSizesSpec.pre6 enc Try.prog Try.f8 Rows.headsegSizesRow.domain false) (Rows.headsegSizesSpec.post enc Try.prog Try.f8 false true false false) := by
  refine returnsInHanded_of_change_sized (C := Try.checked) own started (by kernel_rfl) Try.func8
    (ChangeSpec.witness6 (enc := enc) (C := Try.checked) false ⟨#[], #[.agg #[.int .i64 0, .int .i64 0, .int .i64 0, .int .i64 0, .int .i64 0, .int .i64 0, .slice none 0 0], .agg #[.int .i64 0, .slice none 0 0]], []⟩ 8 (by kernel_rfl) (by kernel_rfl) (by kernel_rfl) (by kernel_rfl)) ?_
  intro W base args ds gs before hval0 hW hcnd hsz0 _
  have hsz : (DataW.weightsEach Try.prog (Try.f8.params.toList ++ Rows.headsegSizesSpec.plain.varTypes Try.prog) (ds ++ gs)).all (· ≤ reachBytes) = true := hsz0
  have hval : ∀ (j : Nat) t v, Try.f8.params[j]? = some t → args[j]? = some v → Value.okWide Try.prog W .any base t v := hval0
  have hW' := hW
  obtain ⟨p, q, hA0, hV, rfl, hfz, hnd⟩ := hW
  have hA : DataW.TrodAll enc Try.prog W 0 (fun _ => true) true Try.f8.params.toList args.toList ds p := hA0
  rw [Try.params8] at hA hval hsz
  obtain ⟨v0, vs0, d0, ds0, p0, q0, hargs, rfl, rfl, h0, r0⟩ := trodAll_cons hA
  obtain ⟨v1, vs1, d1, ds1, p1, q1, rfl, rfl, rfl, h1, r1⟩ := trodAll_cons r0
  obtain ⟨rfl, rfl, rfl⟩ := trodAll_nil r1
  obtain rfl : args = #[v0, v1] := by cases args; simp_all
  obtain ⟨rfl, rfl⟩ := trodVars_none hV
  have k0 := h0
  have lt0 : ∀ x ∈ p0, x.block < W.heap.size := by obtain ⟨m, hm⟩ := k0; exact DataW.trod_lt m _ _ _ hm
  have li0 := light_of hsz (j := 0) (t := 67) rfl rfl
  obtain ⟨fu0, hf0⟩ := h0
  obtain ⟨v0_, hK0, hok0⟩ := (opens_struct Try.underlying67 (by kernel_rfl) (parts_cons (opens_struct Try.underlying64 (by kernel_rfl) (parts_cons (opens_int Try.underlying3 (by kernel_rfl)) rfl (parts_cons (opens_int Try.underlying3 (by kernel_rfl)) rfl (parts_cons (opens_int Try.underlying3 (by kernel_rfl)) rfl (parts_one (opens_int Try.underlying3 (by kernel_rfl)) rfl (by kernel_rfl))))) (fun v => v) (fun v => v) (fun _ => rfl)) rfl (parts_cons (opens_int Try.underlying3 (by kernel_rfl)) rfl (parts_cons (opens_int Try.underlying3 (by kernel_rfl)) rfl (parts_one (opens_slice (B := 32) Try.underlying65 (by kernel_rfl) (by kernel_rfl) o97) rfl (by kernel_rfl))))) (fun v => v) (fun v => v) (fun _ => rfl)).opens hf0 li0
  obtain ⟨cs0, rfl, _⟩ := okWide_struct Try.underlying67 (hval 0 67 v0 rfl rfl)
  obtain ⟨_, _, hcs0, ⟨_, _, rfl, rfl, ⟨_, _, rfl, rfl, ⟨_, _, rfl, rfl, rfl⟩⟩⟩, ⟨_, _, rfl, rfl, ⟨_, _, rfl, rfl, ⟨A0_6, c0_6, rfl, hl0_6, hC0_6⟩⟩⟩⟩ := hK0
  obtain rfl : cs0 = #[.int .i64 v0_.1.1, .int .i64 v0_.1.2.1, .int .i64 v0_.1.2.2.1, .int .i64 v0_.1.2.2.2, .int .i64 v0_.2.1, .int .i64 v0_.2.2.1, .slice A0_6 v0_.2.2.2.length c0_6] := by cases cs0; simpa [Value.cells] using hcs0
  clear hcs0
  obtain ⟨⟨w0_0, w0_1, w0_2, w0_3⟩, w0_4, w0_5, ⟨y0_6, w0_6⟩⟩ := hok0
  have k1 := h1
  have lt1 : ∀ x ∈ p1, x.block < W.heap.size := by obtain ⟨m, hm⟩ := k1; exact DataW.trod_lt m _ _ _ hm
  have li1 := light_of hsz (j := 1) (t := 26) rfl rfl
  obtain ⟨fu1, hf1⟩ := h1
  obtain ⟨v1_, hK1, hok1⟩ := (opens_struct Try.underlying26 (by kernel_rfl) (parts_cons (opens_int Try.underlying3 (by kernel_rfl)) rfl (parts_one (opens_slice (B := 1) Try.underlying24 (by kernel_rfl) (by kernel_rfl) (opens_int Try.underlying5 (by kernel_rfl))) rfl (by kernel_rfl))) (fun v => v) (fun v => v) (fun _ => rfl)).opens hf1 li1
  obtain ⟨cs1, rfl, _⟩ := okWide_struct Try.underlying26 (hval 1 26 v1 rfl rfl)
  obtain ⟨_, _, hcs1, rfl, ⟨A1_1, c1_1, rfl, hl1_1, hC1_1⟩⟩ := hK1
  obtain rfl : cs1 = #[.int .i64 v1_.1, .slice A1_1 v1_.2.length c1_1] := by cases cs1; simpa [Value.cells] using hcs1
  clear hcs1
  obtain ⟨w1_0, ⟨y1_1, w1_1⟩⟩ := hok1
  clear hA0 hval0 hsz0 hsz
  obtain ⟨k, hp⟩ := Pure.HeadsegSizes (v0_.1.1) (v0_.1.2.1) (v0_.1.2.2.1) (v0_.1.2.2.2) (v0_.2.1) (v0_.2.2.1) (v0_.2.2.2) (v1_.1) (v1_.2) w0_0 w0_1 w0_2 w0_3 w0_4 w0_5 y0_6 w0_6 w1_0 y1_1 w1_1
  refine (waveletlaw29_HeadsegSizes.calls k (v0_.1.1) (v0_.1.2.1) (v0_.1.2.2.1) (v0_.1.2.2.2) (v0_.2.1) (v0_.2.2.1) _ _ (v0_.2.2.2) (v1_.1) _ _ (v1_.2) true rfl W hC0_6 hl0_6 hC1_1 hl1_1 hp).mono fun e W' he_ => ?_
  obtain ⟨he, bel⟩ := he_
  subst he
  exact ⟨_, rfl, _, _, _, [], _, [], hW', trodAll_mk1 (shut_bool Try.underlying4 _), (trodAll_cons_mk (Below.trod laidOut (by kernel_rfl) (of_decide_eq_true (by kernel_rfl)) k0 bel lt0) (trodAll_cons_mk (Below.trod laidOut (by kernel_rfl) (of_decide_eq_true (by kernel_rfl)) k1 bel lt1) trodAll_mk0)), rfl, bel.frame _, fun h => by cases h⟩
theorem over : Rows.headsegSizesRow.holds Try.pinned (OpenSpec.ofChange Rows.headsegSizesSpec) :=
  OpenClaim.holds_of_wide 8 Try.f8 rfl rfl rfl rfl rfl rfl rfl ⟨rfl, rfl, rfl, rfl, rfl⟩ rfl rfl rfl rfl rfl (by kernel_rfl) Try.func8 (by kernel_rfl)
    (of_decide_eq_true (by kernel_rfl)) (by unfold Func.isWrapper; first | (rw [if_pos (by decide +kernel)]; kernel_rfl) | (rw [if_neg (by decide +kernel)]; exact ⟨rfl, rfl⟩))
    (fun os started H enc _ => lifted os started H enc)
theorem proved : Rows.HeadsegSizesSaid := over
end Go.Proofs.Ytihfopblmjgfaaa.headsegSizes
namespace Go.Proofs.Ytihfopblmjgfaaa
/-- The row, under a short name, for the claim. -/
theorem headsegSizes_holds : Rows.HeadsegSizesSaid := headsegSizes.proved
#print axioms headsegSizes_holds
end Go.Proofs.Ytihfopblmjgfaaa
