/- RectLeast: Bound of a list of at most 40 rectangles contains each of them, each rectangle that contains all of them contains it, and neither the order of the list nor the bound of a part added to it changes it (for longer lists the law asks for the examples alone); the examples of the chapter hold. No condition. -/
import Derived.Test.YtibaclnknialbaaPureBound
import Derived.Test.YtibaclnknialbaaQ34
namespace Go.Proofs.Ytibaclnknialbaa.Pure
open Go.RowKit Go.Proofs.Ytibaclnknialbaa.Q Go.Proofs.YtibaclnknialbaaW.PrintWords
set_option linter.unusedVariables false
/-- A rectangle without points. -/
def Emp (r : S26) : Prop := r.f2 ≤ r.f0 ∨ r.f3 ≤ r.f1
/-- o is the bound of l: the zero rectangle if none has points, else the least that contains those that have. -/
def IsB (o : R4) (l : List S26) : Prop :=
  ((∀ r ∈ l, Emp r) ∧ o = (0, 0, 0, 0)) ∨
  ((∀ r ∈ l, ¬ Emp r → o.1 ≤ r.f0 ∧ o.2.1 ≤ r.f1 ∧ r.f2 ≤ o.2.2.1 ∧ r.f3 ≤ o.2.2.2) ∧ (∃ r ∈ l, ¬ Emp r ∧ o.1 = r.f0) ∧ (∃ r ∈ l, ¬ Emp r ∧ o.2.1 = r.f1) ∧ (∃ r ∈ l, ¬ Emp r ∧ o.2.2.1 = r.f2) ∧ (∃ r ∈ l, ¬ Emp r ∧ o.2.2.2 = r.f3))
theorem isB_sub {o o' : R4} {l l' : List S26} (h : IsB o l) (h' : IsB o' l') (hs : ∀ r, ¬ Emp r → (r ∈ l ↔ r ∈ l')) : o = o' := by
  rcases h with ⟨he, rfl⟩ | ⟨hb, ⟨r0, m0, n0, e0⟩, ⟨r1, m1, n1, e1⟩, ⟨r2, m2, n2, e2⟩, ⟨r3, m3, n3, e3⟩⟩
  · rcases h' with ⟨_, rfl⟩ | ⟨_, ⟨r0, m0, n0, _⟩, _⟩
    · rfl
    · exact absurd (he r0 ((hs r0 n0).2 m0)) n0
  · rcases h' with ⟨he, rfl⟩ | ⟨hb', ⟨q0, p0, k0, f0⟩, ⟨q1, p1, k1, f1⟩, ⟨q2, p2, k2, f2⟩, ⟨q3, p3, k3, f3⟩⟩
    · exact absurd (he r0 ((hs r0 n0).1 m0)) n0
    · have a0 := hb' r0 ((hs r0 n0).1 m0) n0
      have a1 := hb' r1 ((hs r1 n1).1 m1) n1
      have a2 := hb' r2 ((hs r2 n2).1 m2) n2
      have a3 := hb' r3 ((hs r3 n3).1 m3) n3
      have b0 := hb q0 ((hs q0 k0).2 p0) k0
      have b1 := hb q1 ((hs q1 k1).2 p1) k1
      have b2 := hb q2 ((hs q2 k2).2 p2) k2
      have b3 := hb q3 ((hs q3 k3).2 p3) k3
      refine Prod.ext ?_ (Prod.ext ?_ (Prod.ext ?_ ?_))
      · show o.1 = o'.1; omega
      · show o.2.1 = o'.2.1; omega
      · show o.2.2.1 = o'.2.2.1; omega
      · show o.2.2.2 = o'.2.2.2; omega
/-- With the parts that were met before. -/
theorem isB_go (l : List S26) : ∀ (pre : List S26) (f : Bool) (o : R4), IsB o pre → (f = true ↔ ∃ r ∈ pre, ¬ Emp r) → IsB (bnd f o l) (pre ++ l) := by
  induction l with
  | nil => intro pre f o h _; simpa [bnd] using h
  | cons x xs ih =>
    intro pre f o h hf
    rw [show pre ++ x :: xs = (pre ++ [x]) ++ xs by simp]
    by_cases hx : x.f2 ≤ x.f0 ∨ x.f3 ≤ x.f1
    · rw [bnd_skip f o x xs hx]
      refine ih (pre ++ [x]) f o ?_ ?_
      · rcases h with ⟨he, rfl⟩ | ⟨hb, h1, h2, h3, h4⟩
        · refine .inl ⟨fun r hr => ?_, rfl⟩
          rcases List.mem_append.1 hr with hr | hr
          · exact he r hr
          · rw [List.mem_singleton.1 hr]; exact hx
        · have up : ∀ {p : S26 → Prop}, (∃ r ∈ pre, ¬ Emp r ∧ p r) → ∃ r ∈ pre ++ [x], ¬ Emp r ∧ p r := fun ⟨r, hr, hp⟩ => ⟨r, List.mem_append_left _ hr, hp⟩
          refine .inr ⟨fun r hr hn => ?_, up h1, up h2, up h3, up h4⟩
          rcases List.mem_append.1 hr with hr | hr
          · exact hb r hr hn
          · rw [List.mem_singleton.1 hr] at hn; exact absurd hx hn
      · rw [hf]
        constructor
        · rintro ⟨r, hr, hn⟩; exact ⟨r, List.mem_append_left _ hr, hn⟩
        · rintro ⟨r, hr, hn⟩
          rcases List.mem_append.1 hr with hr | hr
          · exact ⟨r, hr, hn⟩
          · rw [List.mem_singleton.1 hr] at hn; exact absurd hx hn
    · have hmem : x ∈ pre ++ [x] := List.mem_append_right _ (List.mem_singleton.2 rfl)
      have hnow : true = true ↔ ∃ r ∈ pre ++ [x], ¬ Emp r := ⟨fun _ => ⟨x, hmem, hx⟩, fun _ => rfl⟩
      cases f with
      | false =>
        have hall : ∀ r ∈ pre, Emp r := fun r hr => by
          by_cases hn : Emp r
          · exact hn
          · exact absurd (hf.2 ⟨r, hr, hn⟩) (by simp)
        rw [bnd_first o x xs hx]
        refine ih (pre ++ [x]) true _ (.inr ⟨fun r hr hn => ?_, ⟨x, hmem, hx, rfl⟩, ⟨x, hmem, hx, rfl⟩, ⟨x, hmem, hx, rfl⟩, ⟨x, hmem, hx, rfl⟩⟩) hnow
        rcases List.mem_append.1 hr with hr | hr
        · exact absurd (hall r hr) hn
        · rw [List.mem_singleton.1 hr]; exact ⟨Int.le_refl _, Int.le_refl _, Int.le_refl _, Int.le_refl _⟩
      | true =>
        obtain ⟨r9, m9, n9⟩ := hf.1 rfl
        rcases h with ⟨he, _⟩ | ⟨hb, ⟨r0, m0, n0, e0⟩, ⟨r1, m1, n1, e1⟩, ⟨r2, m2, n2, e2⟩, ⟨r3, m3, n3, e3⟩⟩
        · exact absurd (he r9 m9) n9
        rw [bnd_more o x xs hx]
        have x0 := mn_spec o.1 x.f0
        have x1 := mn_spec o.2.1 x.f1
        have x2 := mx_spec o.2.2.1 x.f2
        have x3 := mx_spec o.2.2.2 x.f3
        refine ih (pre ++ [x]) true _ (.inr ⟨fun r hr hn => ?_, ?_, ?_, ?_, ?_⟩) hnow
        · show mn o.1 x.f0 ≤ r.f0 ∧ mn o.2.1 x.f1 ≤ r.f1 ∧ r.f2 ≤ mx o.2.2.1 x.f2 ∧ r.f3 ≤ mx o.2.2.2 x.f3
          rcases List.mem_append.1 hr with hr | hr
          · have := hb r hr hn; omega
          · rw [List.mem_singleton.1 hr]; omega
        · show ∃ r ∈ pre ++ [x], ¬ Emp r ∧ mn o.1 x.f0 = r.f0
          rcases x0.2.2 with e | e
          · exact ⟨r0, List.mem_append_left _ m0, n0, by omega⟩
          · exact ⟨x, hmem, hx, e⟩
        · show ∃ r ∈ pre ++ [x], ¬ Emp r ∧ mn o.2.1 x.f1 = r.f1
          rcases x1.2.2 with e | e
          · exact ⟨r1, List.mem_append_left _ m1, n1, by omega⟩
          · exact ⟨x, hmem, hx, e⟩
        · show ∃ r ∈ pre ++ [x], ¬ Emp r ∧ mx o.2.2.1 x.f2 = r.f2
          rcases x2.2.2 with e | e
          · exact ⟨r2, List.mem_append_left _ m2, n2, by omega⟩
          · exact ⟨x, hmem, hx, e⟩
        · show ∃ r ∈ pre ++ [x], ¬ Emp r ∧ mx o.2.2.2 x.f3 = r.f3
          rcases x3.2.2 with e | e
          · exact ⟨r3, List.mem_append_left _ m3, n3, by omega⟩
          · exact ⟨x, hmem, hx, e⟩
def B (l : List S26) : R4 := bnd false (0, 0, 0, 0) l
theorem isB (l : List S26) : IsB (B l) l := isB_go l [] false (0, 0, 0, 0) (.inl ⟨by simp, rfl⟩) (by simp)
theorem bound_B (l : List S26) (hl : l.length * 32 ≤ 140737488351232) (k : Nat) (hk : l.length < k) : rect_Bound.f k l = some (B l) := by
  have := bound_eq l hl l.length k 0 0 0 0 0 false (by omega) hk
  exact this
def q26 (o : R4) : S26 := ⟨o.1, o.2.1, o.2.2.1, o.2.2.2⟩
theorem isB_more {o : R4} {l m : List S26} (h : IsB o l) (hm : ∀ r ∈ m, r ∈ l) : IsB o (l ++ [q26 (B m)]) := by
  have hB := isB m
  rcases h with ⟨he, rfl⟩ | ⟨hb, h1, h2, h3, h4⟩
  · refine .inl ⟨fun r hr => ?_, rfl⟩
    rcases List.mem_append.1 hr with hr | hr
    · exact he r hr
    · rw [List.mem_singleton.1 hr]
      rcases hB with ⟨_, e⟩ | ⟨_, ⟨r0, m0, n0, _⟩, _⟩
      · rw [e]; exact .inl (Int.le_refl _)
      · exact absurd (he r0 (hm r0 m0)) n0
  · have up : ∀ {p : S26 → Prop}, (∃ r ∈ l, ¬ Emp r ∧ p r) → ∃ r ∈ l ++ [q26 (B m)], ¬ Emp r ∧ p r := fun ⟨r, hr, hp⟩ => ⟨r, List.mem_append_left _ hr, hp⟩
    refine .inr ⟨fun r hr hn => ?_, up h1, up h2, up h3, up h4⟩
    rcases List.mem_append.1 hr with hr | hr
    · exact hb r hr hn
    · rw [List.mem_singleton.1 hr] at hn ⊢
      rcases hB with ⟨_, e⟩ | ⟨_, ⟨r0, m0, n0, e0⟩, ⟨r1, m1, n1, e1⟩, ⟨r2, m2, n2, e2⟩, ⟨r3, m3, n3, e3⟩⟩
      · rw [e] at hn; exact absurd (.inl (Int.le_refl _)) hn
      · have a0 := hb r0 (hm r0 m0) n0
        have a1 := hb r1 (hm r1 m1) n1
        have a2 := hb r2 (hm r2 m2) n2
        have a3 := hb r3 (hm r3 m3) n3
        show o.1 ≤ (B m).1 ∧ o.2.1 ≤ (B m).2.1 ∧ (B m).2.2.1 ≤ o.2.2.1 ∧ (B m).2.2.2 ≤ o.2.2.2
        omega
theorem in_bound {o : R4} {l : List S26} (h : IsB o l) {r : S26} (hr : r ∈ l) : Within o.1 o.2.1 o.2.2.1 o.2.2.2 r.f0 r.f1 r.f2 r.f3 := by
  unfold Within
  by_cases he : Emp r
  · unfold Emp at he; omega
  · rcases h with ⟨ha, _⟩ | ⟨hb, _⟩
    · exact absurd (ha r hr) he
    · have := hb r hr he; omega
theorem bound_in {o : R4} {l : List S26} (h : IsB o l) {a b c d : Int} (hall : ∀ r ∈ l, Within a b c d r.f0 r.f1 r.f2 r.f3) : Within a b c d o.1 o.2.1 o.2.2.1 o.2.2.2 := by
  unfold Within at hall ⊢
  rcases h with ⟨_, rfl⟩ | ⟨hb, ⟨r0, m0, n0, e0⟩, ⟨r1, m1, n1, e1⟩, ⟨r2, m2, n2, e2⟩, ⟨r3, m3, n3, e3⟩⟩
  · exact .inl (Int.le_refl _)
  · have a0 := hall r0 m0
    have a1 := hall r1 m1
    have a2 := hall r2 m2
    have a3 := hall r3 m3
    unfold Emp at n0 n1 n2 n3
    omega
theorem rev_step (l : List S26) (i : Nat) (h : i < l.length) (h40 : l.length ≤ 40) : wrap64 (wrap64 ((l.length : Int) - 1) - (i : Int)) = ((l.length - 1 - i : Nat) : Int) := by
  unfold wrap64; omega
theorem rev_take (l : List S26) (i : Nat) (h : i < l.length) : l.reverse.take i ++ [l[l.length - 1 - i]] = l.reverse.take (i + 1) := by
  have h' : i < l.reverse.length := by simpa using h
  rw [List.take_succ_eq_append_getElem h', List.getElem_reverse]
theorem least_end (l : List S26) (h40 : l.length ≤ 40) (p : Int) (hp : 0 ≤ p ∧ p ≤ 255) (kE : Nat) (hE : ∀ m, waveletlaw01_exampleHolds.f (kE + m) = some true) (k : Nat) (hk : kE + 60 ≤ k) :
    waveletlaw01_RectLeast.j1 k l p l.reverse false (B l).1 (B l).2.1 (B l).2.2.1 (B l).2.2.2 = some true := by
  obtain ⟨k, rfl⟩ : ∃ m, k = m + 1 := ⟨k - 1, by omega⟩
  obtain ⟨m, hm⟩ : ∃ m, k = kE + m := ⟨k - kE, by omega⟩
  have hw : wrap64 ((l.length : Int) + 1) = (l.length : Int) + 1 := by unfold wrap64; omega
  have hwp : wrap64 p = p := by unfold wrap64; omega
  have t0 : 0 ≤ Int.tmod p ((l.length : Int) + 1) := Int.tmod_nonneg _ hp.1
  have t1 : Int.tmod p ((l.length : Int) + 1) < (l.length : Int) + 1 := Int.tmod_lt_of_pos _ (by omega)
  have hr : B l.reverse = B l := isB_sub (isB l.reverse) (isB l) (fun r _ => List.mem_reverse)
  simp only [waveletlaw01_RectLeast.j1]
  rw [hw, hwp, if_neg (by simp), if_neg (by omega), if_pos t0, if_pos (by omega)]
  rw [bound_B _ (by simp; omega) k (by simp; omega)]
  simp only [Option.bind_some]
  rw [if_pos (by simp; omega), bound_B _ (by simp; omega) k (by simp; omega)]
  simp only [Option.bind_some]
  have e : B (l.reverse ++ [q26 (B (l.take (Int.tmod p ((l.length : Int) + 1)).toNat))]) = B l := by
    rw [← hr]
    exact isB_sub (isB _) (isB_more (isB l.reverse) (fun r hr => List.mem_reverse.2 (List.mem_of_mem_take hr))) (fun r _ => Iff.rfl)
  unfold q26 at e
  rw [e, if_pos (by simp), hm, hE]
  rfl
theorem least_loop (l : List S26) (h40 : l.length ≤ 40) (p a b c d : Int) (hp : 0 ≤ p ∧ p ≤ 255) (kE : Nat) (hE : ∀ m, waveletlaw01_exampleHolds.f (kE + m) = some true) (n : Nat) : ∀ (k i : Nat) (all : Bool), i + n = l.length → kE + 100 + n ≤ k → (all = true → ∀ r ∈ l.take i, Within a b c d r.f0 r.f1 r.f2 r.f3) →
    waveletlaw01_RectLeast.l0 k l p all (l.reverse.take i) (i : Int) a b c d (B l).1 (B l).2.1 (B l).2.2.1 (B l).2.2.2 = some true := by
  have hr : B l.reverse = B l := isB_sub (isB l.reverse) (isB l) (fun r _ => List.mem_reverse)
  induction n with
  | zero =>
    intro k i all hi hk hall
    obtain ⟨k, rfl⟩ : ∃ m, k = m + 1 := ⟨k - 1, by omega⟩
    simp only [waveletlaw01_RectLeast.l0]
    rw [if_neg (by omega), List.take_of_length_le (by simp; omega), bound_B _ (by simp; omega) k (by simp; omega), hr]
    have hj := least_end l h40 p hp kE hE k (by omega)
    cases all with
    | false => simpa using hj
    | true =>
      have hw := bound_in (isB l) (a := a) (b := b) (c := c) (d := d) (by
        have h2 := hall rfl
        rwa [List.take_of_length_le (by omega)] at h2)
      rw [if_pos rfl, contains_eq, decide_eq_true hw]
      simpa using hj
  | succ n ih =>
    intro k i all hi hk hall
    obtain ⟨k, rfl⟩ : ∃ m, k = m + 1 := ⟨k - 1, by omega⟩
    have hlt : i < l.length := by omega
    simp only [waveletlaw01_RectLeast.l0]
    have hin := in_bound (isB l) (List.getElem_mem hlt)
    rw [if_pos (by omega), if_pos (by omega), rd_at l i hlt, contains_eq, decide_eq_true hin]
    simp only [Option.bind_some, if_true]
    have snoc : ∀ {p : S26 → Prop}, (∀ r ∈ l.take i, p r) → p l[i] → ∀ r ∈ l.take (i + 1), p r := fun h1 h2 r hr => by
      rw [List.take_succ_eq_append_getElem hlt] at hr
      rcases List.mem_append.1 hr with hr | hr
      · exact h1 r hr
      · rw [List.mem_singleton.1 hr]; exact h2
    cases all with
    | true =>
      rw [if_pos rfl, contains_eq]
      simp only [Option.bind_some]
      rw [rev_step l i hlt h40, rd_at l (l.length - 1 - i) (by omega), if_pos (by omega), if_pos (by omega), if_pos (by simp; omega), step_nat i l (by omega) hlt, rev_take l i hlt]
      exact ih k (i + 1) _ (by omega) (by omega) (fun h => snoc (hall rfl) (by simpa using h))
    | false =>
      rw [if_neg (by simp)]
      rw [rev_step l i hlt h40, rd_at l (l.length - 1 - i) (by omega), if_pos (by omega), if_pos (by omega), if_pos (by simp; omega), step_nat i l (by omega) hlt, rev_take l i hlt]
      exact ih k (i + 1) false (by omega) (by omega) (by simp)
theorem wf_u8 {a : Int} (h : (Lit.int .u8 a).wf = true) : 0 ≤ a ∧ a ≤ 255 := by
  simp [Lit.wf, IntKind.min, IntKind.max, IntKind.signed, IntKind.bits] at h
  omega
theorem RectLeast (l0 : List (S26)) (a1_0 : Int) (a1_1 : Int) (a1_2 : Int) (a1_3 : Int) (a2 : Int) (y0 : l0.length * 32 ≤ 140737488351232) (w0 : ∀ x ∈ l0, ((Lit.int .i64 x.f0).wf = true ∧ (Lit.int .i64 x.f1).wf = true ∧ (Lit.int .i64 x.f2).wf = true ∧ (Lit.int .i64 x.f3).wf = true)) (w1_0 : (Lit.int .i64 a1_0).wf = true) (w1_1 : (Lit.int .i64 a1_1).wf = true) (w1_2 : (Lit.int .i64 a1_2).wf = true) (w1_3 : (Lit.int .i64 a1_3).wf = true) (w2 : (Lit.int .u8 a2).wf = true) : ∃ k, waveletlaw01_RectLeast.f k l0 a1_0 a1_1 a1_2 a1_3 a2 = some true := by
  obtain ⟨k, hk⟩ := example_holds
  have hE : ∀ m, waveletlaw01_exampleHolds.f (k + m) = some true := fun m => at_rounds waveletlaw01_exampleHolds.mono (by omega) hk
  refine ⟨k + 100 + l0.length, ?_⟩
  unfold waveletlaw01_RectLeast.f
  split
  · rw [show k + 100 + l0.length = k + (100 + l0.length) by omega, hE]; rfl
  · rw [bound_B l0 y0 _ (by omega)]
    have := least_loop l0 (by omega) a2 a1_0 a1_1 a1_2 a1_3 (wf_u8 w2) k hE l0.length (k + 100 + l0.length) 0 true (by omega) (by omega) (by simp)
    simpa using this
end Go.Proofs.Ytibaclnknialbaa.Pure
