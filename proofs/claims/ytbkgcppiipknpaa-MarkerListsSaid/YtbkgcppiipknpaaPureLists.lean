/- What All returns of the bytes of a list of segments. -/
import Derived.Test.YtbkgcppiipknpaaPureMarkerReturns
import Derived.Test.YtbkgcppiipknpaaQ20
namespace Go.Proofs.Ytbkgcppiipknpaa.Pure
open Go.RowKit Go.Proofs.Ytbkgcppiipknpaa.Q Go.Proofs.YtbkgcppiipknpaaW.PrintWords
set_option linter.unusedVariables false
/-- From some number of rounds on, the answer is there. -/
def Ev {α : Type} (g : Nat → Option α) (v : α) : Prop := ∃ K, ∀ k, K ≤ k → g k = some v
theorem Ev.const {α : Type} (v : α) : Ev (fun _ => some v) v := ⟨0, fun _ _ => rfl⟩
theorem Ev.bind {α β : Type} {f : Nat → Option α} {h : Nat → α → Option β} {a : α} {v : β} (hf : Ev f a) (hh : Ev (fun k => h k a) v) : Ev (fun k => (f k).bind (h k)) v := by
  obtain ⟨K, hK⟩ := hf
  obtain ⟨L, hL⟩ := hh
  refine ⟨K + L, fun k hk => ?_⟩
  show (f k).bind (h k) = some v
  rw [hK k (by omega)]
  exact hL k (by omega)
theorem Ev.step {α : Type} {g g' : Nat → Option α} {v : α} (h : ∀ k, g (k + 1) = g' k) (hg : Ev g' v) : Ev g v := by
  obtain ⟨K, hK⟩ := hg
  refine ⟨K + 1, fun k hk => ?_⟩
  obtain ⟨j, rfl⟩ : ∃ j, k = j + 1 := ⟨k - 1, by omega⟩
  rw [h]
  exact hK j (by omega)
theorem Ev.eq {α : Type} {g g' : Nat → Option α} {v : α} (h : ∀ k, g k = g' k) (hg : Ev g' v) : Ev g v := by
  obtain ⟨K, hK⟩ := hg
  exact ⟨K, fun k hk => (h k).trans (hK k hk)⟩
theorem Ev.ex {α : Type} {g : Nat → Option α} {v : α} (h : Ev g v) : ∃ k, g k = some v := by
  obtain ⟨K, hK⟩ := h
  exact ⟨K, hK K (Nat.le_refl _)⟩
theorem Ev.at {α : Type} {g : Nat → Option α} {v : α} (h : ∀ k, LeO (g k) (g (k + 1))) (e : ∃ k, g k = some v) : Ev g v := by
  obtain ⟨K, hK⟩ := e
  exact ⟨K, fun k hk => at_rounds h hk hK⟩

theorem nx {α : Type} (pre : List α) (x : α) (h : pre.length < 1000000000000000) : wrap64 ((pre.length : Int) + 1) = ((pre ++ [x]).length : Int) := by
  rw [List.length_append, List.length_singleton]
  unfold wrap64
  omega
theorem in_app {α : Type} (pre post : List α) (x : α) : (pre.length : Int) < ((pre ++ x :: post).length : Int) := by
  rw [List.length_append, List.length_cons]; omega

theorem segs_self (l : List S26) (hl : l.length ≤ 100000) (d : Nat) : ∀ (k j : Nat), j + d = l.length → waveletref28_SameSegments.l0 (k + d + 1) l l (l.length : Int) (j : Int) = some true := by
  induction d with
  | zero =>
    intro k j hj
    rw [show k + 0 + 1 = k + 1 from rfl, waveletref28_SameSegments.l0, if_neg (by omega)]
  | succ d ih =>
    intro k j hj
    obtain ⟨s, hs⟩ : ∃ s, rd_T26 l (j : Int) = s := ⟨_, rfl⟩
    have h1 := ih k (j + 1) (by omega)
    obtain ⟨q, hq⟩ : ∃ q, k + d + 1 = q := ⟨_, rfl⟩
    rw [hq] at h1
    rw [show k + (d + 1) + 1 = q + 1 by omega, waveletref28_SameSegments.l0, if_pos (by omega), if_pos (by omega), if_pos (by omega), if_pos (by omega), hs, seg_self]
    rw [show wrap64 ((j : Int) + 1) = ((j + 1 : Nat) : Int) by unfold wrap64; omega, h1]
    rfl
/-- F holds the segments of a list from a place to a place. -/
def Ch (F : List Int) : Int → List S26 → Int → Prop
  | a, [], e => a = e
  | a, s :: t, e => St F a = false ∧ (RD F a).2.2.2 = 0 ∧ (⟨(RD F a).1, (RD F a).2.1⟩ : S26) = s ∧ Ch F (RD F a).2.2.1 t e
theorem al_ch (F : List Int) : ∀ (g : List S26) (d : Nat) (a e : Int) (acc : List S26), g.length < d → Ch F a g e → St F e = true → AL F d a acc = (acc ++ g, e, 0)
  | [], 0, a, e, acc, hd, h, hs => by simp at hd
  | [], d + 1, a, e, acc, hd, h, hs => by
    have h' : a = e := h
    rw [AL, h', if_pos hs, List.append_nil]
  | s :: t, 0, a, e, acc, hd, h, hs => by simp at hd
  | s :: t, d + 1, a, e, acc, hd, h, hs => by
    obtain ⟨h1, h2, h3, h4⟩ := h
    have hn : ¬ St F a = true := by rw [h1]; decide
    rw [AL, if_neg hn, if_pos h2, h3, al_ch F t d _ e _ (by simpa using hd) h4 hs, List.append_assoc]
    rfl
theorem ch_snoc (F : List Int) (s : S26) : ∀ (g : List S26) (a e : Int), Ch F a g e → St F e = false → (RD F e).2.2.2 = 0 → (⟨(RD F e).1, (RD F e).2.1⟩ : S26) = s → Ch F a (g ++ [s]) (RD F e).2.2.1
  | [], a, e, h, h1, h2, h3 => by
    have h' : a = e := h
    subst h'
    exact ⟨h1, h2, h3, rfl⟩
  | x :: t, a, e, h, h1, h2, h3 => by
    obtain ⟨g1, g2, g3, g4⟩ := h
    exact ⟨g1, g2, g3, ch_snoc F s t _ e g4 h1 h2 h3⟩
theorem rd_code (F : List Int) (a : Int) (h : (RD F a).2.2.2 = 0) : (RU F a 2).2 = 0 ∧ (RD F a).1 = (RU F a 2).1 := by
  unfold RD at h ⊢
  by_cases h1 : (RU F a 2).2 = 0
  · rw [if_pos h1] at h ⊢
    refine ⟨h1, ?_⟩
    repeat' split
    all_goals first | rfl | (simp_all; done)
  · rw [if_neg h1] at h
    exact absurd h h1
theorem app_pre (b : List Int) (c : Int) (p : List Int) (h : (App b c p).2 = 0) : ∃ m, (App b c p).1 = b ++ m := by
  unfold App at h ⊢
  repeat' split
  all_goals first | exact ⟨_, List.append_assoc _ _ _⟩ | exact ⟨_, rfl⟩ | (simp_all; done) | (refine ⟨_, ?_⟩; simp only [List.append_assoc]; rfl)
/-- b holds the segments of a list, whatever follows. -/
def Holds (b : List Int) (g : List S26) : Prop := ∀ c, Ch (b ++ c) 0 g (b.length : Int)
theorem holds_nil : Holds [] [] := fun c => rfl
theorem holds_snoc (b : List Int) (g : List S26) (h : Holds b g) (s : S26) (he : (App b s.f0 s.f1).2 = 0) (hc : s.f0 ≠ 65456 ∧ s.f0 ≠ 65458 ∧ s.f0 ≠ 65455) : Holds (App b s.f0 s.f1).1 (g ++ [s]) := by
  intro c
  obtain ⟨m, hm⟩ := app_pre b s.f0 s.f1 he
  have hb := read_back b s.f1 c s.f0 he
  have h0 := h (m ++ c)
  rw [← List.append_assoc, ← hm] at h0
  have h2 : (RD ((App b s.f0 s.f1).1 ++ c) (b.length : Int)).2.2.2 = 0 := by rw [hb]
  have hr := rd_code _ _ h2
  have h1 : St ((App b s.f0 s.f1).1 ++ c) (b.length : Int) = false := by
    unfold St
    rw [decide_eq_false_iff_not]
    rintro ⟨_, hk⟩
    rw [← hr.2, hb] at hk
    simp only at hk
    omega
  have h3 := ch_snoc _ s g 0 (b.length : Int) h0 h1 h2 (by rw [hb])
  rw [hb] at h3
  exact h3
theorem holds_end (b : List Int) (g : List S26) (h : Holds b g) (after : List Int) (he : (App b 65455 []).2 = 0) (d : Nat) (hd : g.length < d) : AL ((App b 65455 []).1 ++ after) d 0 [] = (g, (b.length : Int), 0) := by
  obtain ⟨m, hm⟩ := app_pre b 65455 [] he
  have hb := read_back b [] after 65455 he
  have h0 := h (m ++ after)
  rw [← List.append_assoc, ← hm] at h0
  have h2 : (RD ((App b 65455 []).1 ++ after) (b.length : Int)).2.2.2 = 0 := by rw [hb]
  have hr := rd_code _ _ h2
  have h1 : St ((App b 65455 []).1 ++ after) (b.length : Int) = true := by
    unfold St
    rw [decide_eq_true_iff]
    refine ⟨hr.1, ?_⟩
    rw [← hr.2, hb]
    simp
  have := al_ch _ g d 0 (b.length : Int) [] hd h0 h1
  simpa using this
end Go.Proofs.Ytbkgcppiipknpaa.Pure
