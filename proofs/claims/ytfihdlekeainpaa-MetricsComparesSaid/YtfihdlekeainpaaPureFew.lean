/- The bound of the image laws (few planes and samples), and the measures as exact sums under it. -/
import Derived.Test.YtfihdlekeainpaaPureLib
import Derived.Test.YtfihdlekeainpaaQ2
namespace Go.Proofs.Ytfihdlekeainpaa.Pure
open Go.RowKit Go.Proofs.Ytfihdlekeainpaa.Q Go.Proofs.YtfihdlekeainpaaW.PrintWords
set_option linter.unusedVariables false

def few (A : List S42) : Bool := if cnt A 0 ≤ 2000 then decide (A.length ≤ 10) else false
theorem few_l0 (a0 a1 a2 a3 a4 a5 : Int) (l : List S51) (A : List S42) (hA : Fin A) : ∀ post pre c, A = pre ++ post →
    Ev (fun k => waveletref50_Few.l0 k c (pre.length : Int) a0 a1 a2 a3 a4 a5 l A) (if cnt post c ≤ 2000 then decide (A.length ≤ 10) else false) := by
  intro post
  induction post with
  | nil =>
    intro pre c h
    rw [List.append_nil] at h
    subst h
    refine Ev.step (fun k => by rw [waveletref50_Few.l0, if_neg (by omega)]) ?_
    show Ev (fun k => if c ≤ 2000 then some (decide ((A.length : Int) ≤ 10)) else some false) (if c ≤ 2000 then decide (A.length ≤ 10) else false)
    split
    · rw [show decide ((A.length : Int) ≤ 10) = decide (A.length ≤ 10) by rw [decide_eq_decide]; omega]
      exact Ev.const _
    · exact Ev.const _
  | cons x post ih =>
    intro pre c h
    have hx : rd_T42 A (pre.length : Int) = x := by rw [h]; exact rdT_at _ _ _
    have hl : (pre.length : Int) < (A.length : Int) := by rw [h]; exact in_app _ _ _
    have hs : wrap64 ((pre.length : Int) + 1) = ((pre ++ [x]).length : Int) := nx pre x (by have := hA.1; omega)
    refine Ev.step (fun k => by rw [waveletref50_Few.l0, if_pos hl, if_pos (by omega), hx, hs]) ?_
    exact ih (pre ++ [x]) (wrap64 (c + (x.f1.length : Int))) (by simp [h])
theorem few_ev (a0 a1 a2 a3 a4 a5 : Int) (l : List S51) (A : List S42) (hA : Fin A) : Ev (fun k => waveletref50_Few.f k a0 a1 a2 a3 a4 a5 l A) (few A) :=
  few_l0 a0 a1 a2 a3 a4 a5 l A hA A [] 0 rfl

def tot : List S42 → Int
  | [] => 0
  | p :: t => (p.f1.length : Int) + tot t
theorem tot_nonneg : ∀ A, 0 ≤ tot A
  | [] => Int.le_refl _
  | p :: t => by have := tot_nonneg t; unfold tot; omega
theorem cnt_exact : ∀ (A : List S42) (c : Int), 0 ≤ c → c + (A.length : Int) * 1000000000000000 < 4611686018427387904 → (∀ p ∈ A, p.f1.length < 1000000000000000) → cnt A c = c + tot A
  | [], c, _, _, _ => by show c = c + 0; omega
  | p :: t, c, h0, h1, h2 => by
    have hp := h2 p (by simp)
    rw [List.length_cons] at h1
    have e : wrap64 (c + (p.f1.length : Int)) = c + (p.f1.length : Int) := by unfold wrap64; omega
    have ih := cnt_exact t (c + (p.f1.length : Int)) (by omega) (by omega) (fun q hq => h2 q (by simp [hq]))
    show cnt t (wrap64 (c + (p.f1.length : Int))) = _
    rw [e, ih]
    show c + (p.f1.length : Int) + tot t = c + ((p.f1.length : Int) + tot t)
    omega
theorem few_tot {A : List S42} (hA : Fin A) (h : few A = true) : A.length ≤ 10 ∧ cnt A 0 = tot A ∧ tot A ≤ 2000 := by
  unfold few at h
  split at h
  · rename_i h1
    have h2 : A.length ≤ 10 := of_decide_eq_true h
    have h3 := cnt_exact A 0 (Int.le_refl _) (by omega) hA.2
    exact ⟨h2, by omega, by omega⟩
  · simp at h
theorem pp_len : ∀ (A B : List S42), Alike A B → ((PP A B).length : Int) = tot A
  | [], B, _ => rfl
  | x :: A, [], h => by simp [Alike] at h
  | x :: A, y :: B, h => by
    have h1 : x.f1.length = y.f1.length := h.2 (x, y) (by simp)
    have ih := pp_len A B ⟨by simpa using h.1, fun z hz => h.2 z (by simp [hz])⟩
    have e : PP (x :: A) (y :: B) = x.f1.zip y.f1 ++ PP A B := rfl
    rw [e, List.length_append, List.length_zip]
    unfold tot
    omega

def sumsq : List (Int × Int) → Int
  | [] => 0
  | d :: t => (d.1 - d.2) * (d.1 - d.2) + sumsq t
def Rng (P : List (Int × Int)) : Prop := ∀ d ∈ P, -131072 ≤ d.1 - d.2 ∧ d.1 - d.2 ≤ 131072
theorem sq_le {d m : Int} (h : -m ≤ d ∧ d ≤ m) : 0 ≤ d * d ∧ d * d ≤ m * m := by
  by_cases h0 : 0 ≤ d
  · exact ⟨Int.mul_nonneg h0 h0, Int.mul_le_mul h.2 h.2 h0 (by omega)⟩
  · have e : d * d = -d * -d := by rw [Int.neg_mul_neg]
    rw [e]
    exact ⟨Int.mul_nonneg (by omega) (by omega), Int.mul_le_mul (by omega) (by omega) (by omega) (by omega)⟩
theorem sumsq_le {m : Int} : ∀ P, (∀ d ∈ P, -m ≤ d.1 - d.2 ∧ d.1 - d.2 ≤ m) → 0 ≤ sumsq P ∧ sumsq P ≤ (P.length : Int) * (m * m)
  | [], _ => by simp [sumsq]
  | d :: t, h => by
    have h1 := sq_le (h d (by simp))
    have ih := sumsq_le t (fun x hx => h x (by simp [hx]))
    unfold sumsq
    rw [List.length_cons]
    have e : ((t.length + 1 : Nat) : Int) * (m * m) = (t.length : Int) * (m * m) + m * m := by
      rw [Int.natCast_add, Int.add_mul]; simp
    rw [e]
    omega
theorem sq_exact : ∀ P s, Rng P → 0 ≤ s → s + 17179869184 * (P.length : Int) < 4611686018427387904 → P.foldl sqStep s = s + sumsq P
  | [], s, _, _, _ => by show s = s + 0; omega
  | d :: t, s, h, h0, h1 => by
    have hd := h d (by simp)
    rw [List.length_cons] at h1
    have hq := sq_le hd
    rw [show (131072 : Int) * 131072 = 17179869184 by decide] at hq
    have e : sqStep s d = s + (d.1 - d.2) * (d.1 - d.2) := by
      unfold sqStep
      rw [show wrap64 (d.1 - d.2) = d.1 - d.2 by unfold wrap64; omega]
      unfold wrap64
      omega
    show t.foldl sqStep (sqStep s d) = _
    rw [e, sq_exact t _ (fun x hx => h x (by simp [hx])) (by omega) (by omega)]
    show s + (d.1 - d.2) * (d.1 - d.2) + sumsq t = s + ((d.1 - d.2) * (d.1 - d.2) + sumsq t)
    omega
theorem mxs (a b : Int) : a ≤ mx a b ∧ b ≤ mx a b ∧ (mx a b = a ∨ mx a b = b) := by unfold mx; omega
/-- What is known of the greatest difference. -/
theorem mx_spec : ∀ P m, Rng P → 0 ≤ m → m ≤ P.foldl mxStep m ∧ (∀ d ∈ P, -(P.foldl mxStep m) ≤ d.1 - d.2 ∧ d.1 - d.2 ≤ P.foldl mxStep m) ∧ (P.foldl mxStep m = m ∨ ∃ d ∈ P, P.foldl mxStep m = d.1 - d.2 ∨ P.foldl mxStep m = d.2 - d.1)
  | [], m, _, _ => ⟨Int.le_refl _, fun d hd => by simp at hd, Or.inl rfl⟩
  | d :: t, m, h, h0 => by
    have hd := h d (by simp)
    have e : mxStep m d = mx (mx m (d.1 - d.2)) (d.2 - d.1) := by
      unfold mxStep
      rw [show wrap64 (d.1 - d.2) = d.1 - d.2 by unfold wrap64; omega]
      congr 1
      unfold wrap64
      omega
    have h1 := mxs m (d.1 - d.2)
    have h2 := mxs (mx m (d.1 - d.2)) (d.2 - d.1)
    have ih := mx_spec t (mxStep m d) (fun x hx => h x (by simp [hx])) (by rw [e]; omega)
    show m ≤ t.foldl mxStep (mxStep m d) ∧ _
    obtain ⟨i1, i2, i3⟩ := ih
    refine ⟨by omega, fun x hx => ?_, ?_⟩
    · rcases List.mem_cons.mp hx with rfl | hx
      · show -(t.foldl mxStep (mxStep m x)) ≤ _ ∧ _ ≤ t.foldl mxStep (mxStep m x)
        omega
      · exact i2 x hx
    · rcases i3 with i3 | ⟨x, hx, i3⟩
      · show t.foldl mxStep (mxStep m d) = m ∨ ∃ d_1 ∈ d :: t, t.foldl mxStep (mxStep m d) = _ ∨ t.foldl mxStep (mxStep m d) = _
        rw [i3, e]
        rcases h2.2.2 with h3 | h3
        · rcases h1.2.2 with h4 | h4
          · exact Or.inl (by omega)
          · exact Or.inr ⟨d, by simp, Or.inl (by omega)⟩
        · exact Or.inr ⟨d, by simp, Or.inr (by omega)⟩
      · exact Or.inr ⟨x, by simp [hx], i3⟩
theorem pp_mem {A B : List S42} {d : Int × Int} : d ∈ PP A B ↔ ∃ x ∈ A.zip B, d ∈ x.1.f1.zip x.2.f1 := by
  unfold PP
  exact List.mem_flatMap
theorem within_mem {A : List S42} (h : within A = true) {p : S42} (hp : p ∈ A) {x : Int} (hx : x ∈ p.f1) : -65536 ≤ x ∧ x ≤ 65536 := by
  have h1 := List.all_eq_true.mp (List.all_eq_true.mp h p hp) x hx
  unfold InR at h1
  simp only [Bool.and_eq_true, decide_eq_true_eq] at h1
  exact ⟨h1.2, h1.1⟩
theorem zip_mem {α β : Type} : ∀ {A : List α} {B : List β} {x : α × β}, x ∈ A.zip B → x.1 ∈ A ∧ x.2 ∈ B
  | [], B, x, h => by simp at h
  | a :: A, [], x, h => by simp at h
  | a :: A, b :: B, x, h => by
    rw [List.zip_cons_cons, List.mem_cons] at h
    rcases h with rfl | h
    · simp
    · have := zip_mem h
      exact ⟨by simp [this.1], by simp [this.2]⟩
theorem pp_rng {A B : List S42} (hA : within A = true) (hB : within B = true) : Rng (PP A B) := by
  intro d hd
  obtain ⟨x, hx, hd⟩ := pp_mem.mp hd
  have h1 := zip_mem hx
  have h2 := zip_mem hd
  have h3 := within_mem hA h1.1 h2.1
  have h4 := within_mem hB h1.2 h2.2
  omega
theorem zip_swap {α : Type} : ∀ (A B : List α), B.zip A = (A.zip B).map Prod.swap
  | [], B => by simp
  | a :: A, [] => by simp
  | a :: A, b :: B => by rw [List.zip_cons_cons, List.zip_cons_cons, List.map_cons, zip_swap A B]; rfl
theorem pp_swap : ∀ (A B : List S42), PP B A = (PP A B).map Prod.swap := by
  intro A B
  unfold PP
  rw [zip_swap A B, List.map_flatMap, List.flatMap_map]
  congr 1
  funext x
  exact zip_swap x.1.f1 x.2.f1
theorem sumsq_swap : ∀ P, sumsq (P.map Prod.swap) = sumsq P
  | [] => rfl
  | d :: t => by
    have h := sumsq_swap t
    show (d.2 - d.1) * (d.2 - d.1) + sumsq (t.map Prod.swap) = (d.1 - d.2) * (d.1 - d.2) + sumsq t
    rw [h, show d.2 - d.1 = -(d.1 - d.2) by omega, Int.neg_mul_neg]
theorem SR_comm (p q : S42) : SR p q = SR q p := by
  rw [Bool.eq_iff_iff, SR_iff, SR_iff]
  exact ⟨Eq.symm, Eq.symm⟩
theorem pok_swap (x : S42 × S42) : POk x.swap = POk x := by
  unfold POk
  show (decide (V x.2) && (decide (V x.1) && SR x.2 x.1)) = (decide (V x.1) && (decide (V x.2) && SR x.1 x.2))
  rw [SR_comm x.2 x.1]
  cases decide (V x.1) <;> cases decide (V x.2) <;> rfl
theorem chk_comm (A B : List S42) : chk A B = chk B A := by
  unfold chk
  have e : (B.zip A).all POk = (A.zip B).all POk := by
    rw [zip_swap A B, List.all_map]
    congr 1
    funext x
    exact pok_swap x
  rw [e]
  by_cases h : A.length = B.length
  · rw [h]
    cases within A <;> cases within B <;> simp
  · rw [if_neg (fun x => h x.1), if_neg (fun x => h x.1.symm)]
theorem zip3 {α : Type} : ∀ (A B C : List α) (a c : α), A.length = B.length → B.length = C.length → (a, c) ∈ A.zip C → ∃ b, (a, b) ∈ A.zip B ∧ (b, c) ∈ B.zip C
  | [], B, C, a, c, _, _, h => by simp at h
  | x :: A, [], C, a, c, h1, _, h => by simp at h1
  | x :: A, y :: B, [], a, c, _, h2, h => by simp at h2
  | x :: A, y :: B, z :: C, a, c, h1, h2, h => by
    rw [List.zip_cons_cons, List.mem_cons] at h
    rcases h with e | h
    · injection e with e1 e2
      subst e1; subst e2
      exact ⟨y, by simp, by simp⟩
    · obtain ⟨b, b1, b2⟩ := zip3 A B C a c (by simpa using h1) (by simpa using h2) h
      exact ⟨b, by simp [b1], by simp [b2]⟩
theorem chk_trans {A B C : List S42} (h : chk A B = 0) (h' : chk B C = 0) : chk A C = 0 := by
  obtain ⟨e, l1, l2, h1, w1, w2⟩ := chk_ok h
  obtain ⟨e', _, _, h1', w1', w2'⟩ := chk_ok h'
  unfold chk
  rw [if_pos ⟨by omega, l1, l2⟩, if_pos ?_, if_pos w1, if_pos w2']
  rw [List.all_eq_true]
  intro x hx
  obtain ⟨b, hb1, hb2⟩ := zip3 A B C x.1 x.2 e e' hx
  obtain ⟨v1, v2, s1⟩ := h1 _ hb1
  obtain ⟨v3, v4, s2⟩ := h1' _ hb2
  unfold POk
  rw [SR_iff] at s1 s2
  simp only [Bool.and_eq_true, decide_eq_true_eq]
  exact ⟨v1, v4, by rw [SR_iff]; exact s1.trans s2⟩
theorem pp3 {A B C : List S42} (h : Alike A B) (h' : Alike B C) {a c : Int} (hd : (a, c) ∈ PP A C) : ∃ b, (a, b) ∈ PP A B ∧ (b, c) ∈ PP B C := by
  obtain ⟨⟨p, r⟩, hx, hd⟩ := pp_mem.mp hd
  obtain ⟨q, q1, q2⟩ := zip3 A B C p r h.1 h'.1 hx
  obtain ⟨b, b1, b2⟩ := zip3 p.f1 q.f1 r.f1 a c (h.2 _ q1) (h'.2 _ q2) hd
  exact ⟨b, pp_mem.mpr ⟨_, q1, b1⟩, pp_mem.mpr ⟨_, q2, b2⟩⟩
theorem zip_zero : ∀ (p q : List Int), p.length = q.length → (p = q ↔ ∀ d ∈ p.zip q, d.1 - d.2 = 0)
  | [], [], _ => by simp
  | [], y :: q, h => by simp at h
  | x :: p, [], h => by simp at h
  | x :: p, y :: q, h => by
    have ih := zip_zero p q (by simpa using h)
    constructor
    · intro e
      injection e with e1 e2
      intro d hd
      rw [List.zip_cons_cons, List.mem_cons] at hd
      rcases hd with rfl | hd
      · show x - y = 0; omega
      · exact ih.mp e2 d hd
    · intro hd
      have h1 : x - y = 0 := hd (x, y) (by simp)
      rw [show x = y by omega, ih.mpr (fun d h2 => hd d (by simp [h2]))]
theorem eq_zero {A B : List S42} (h : chk A B = 0) : EQ A B = true ↔ ∀ d ∈ PP A B, d.1 - d.2 = 0 := by
  obtain ⟨e, _, _, h1, _, _⟩ := chk_ok h
  have hl := chk_alike h
  unfold EQ
  rw [decide_eq_true e, Bool.true_and, List.all_eq_true]
  constructor
  · intro h2 d hd
    obtain ⟨x, hx, hd⟩ := pp_mem.mp hd
    have h3 := h2 x hx
    unfold EQp at h3
    simp only [Bool.and_eq_true, decide_eq_true_eq] at h3
    exact (zip_zero _ _ (hl.2 x hx)).mp h3.2 d hd
  · intro h2 x hx
    unfold EQp
    simp only [Bool.and_eq_true, decide_eq_true_eq]
    exact ⟨(h1 x hx).2.2, (zip_zero _ _ (hl.2 x hx)).mpr (fun d hd => h2 d (pp_mem.mpr ⟨x, hx, hd⟩))⟩
theorem sumsq_zero : ∀ P, sumsq P = 0 → ∀ d ∈ P, d.1 - d.2 = 0
  | [], _, d, hd => by simp at hd
  | e :: t, h, d, hd => by
    have h1 : 0 ≤ (e.1 - e.2) * (e.1 - e.2) := by
      by_cases h0 : 0 ≤ e.1 - e.2
      · exact Int.mul_nonneg h0 h0
      · rw [← Int.neg_mul_neg]; exact Int.mul_nonneg (by omega) (by omega)
    have h2 : 0 ≤ sumsq t := by
      clear h hd h1
      induction t with
      | nil => exact Int.le_refl _
      | cons u t ih =>
        unfold sumsq
        have : 0 ≤ (u.1 - u.2) * (u.1 - u.2) := by
          by_cases h0 : 0 ≤ u.1 - u.2
          · exact Int.mul_nonneg h0 h0
          · rw [← Int.neg_mul_neg]; exact Int.mul_nonneg (by omega) (by omega)
        omega
    unfold sumsq at h
    rcases List.mem_cons.mp hd with rfl | hd
    · have h3 : (d.1 - d.2) * (d.1 - d.2) = 0 := by omega
      rcases Int.mul_eq_zero.mp h3 with h3 | h3 <;> exact h3
    · exact sumsq_zero t (by omega) d hd
theorem sumsq_zero' : ∀ P, (∀ d ∈ P, d.1 - d.2 = 0) → sumsq P = 0
  | [], _ => rfl
  | d :: t, h => by
    unfold sumsq
    rw [h d (by simp), sumsq_zero' t (fun x hx => h x (by simp [hx]))]
    simp
theorem sumsq_ge : ∀ P, Rng P → ∀ d ∈ P, (d.1 - d.2) * (d.1 - d.2) ≤ sumsq P
  | [], _, d, hd => by simp at hd
  | e :: t, h, d, hd => by
    have h1 := sq_le (h e (by simp))
    have h2 := (sumsq_le (m := 131072) t (fun x hx => h x (by simp [hx]))).1
    unfold sumsq
    rcases List.mem_cons.mp hd with rfl | hd
    · omega
    · have := sumsq_ge t (fun x hx => h x (by simp [hx])) d hd
      omega
/-- The measures of two images that can be compared, under the bound. -/
theorem sq_is {A B : List S42} (hA : Fin A) (hf : few A = true) (h : chk A B = 0) : SQ A B = (sumsq (PP A B), ((PP A B).length : Int), 0) ∧ (PP A B).length ≤ 2000 ∧ Rng (PP A B) := by
  obtain ⟨e, _, _, _, w1, w2⟩ := chk_ok h
  have hr := pp_rng w1 w2
  obtain ⟨_, h2, h3⟩ := few_tot hA hf
  have h4 := pp_len A B (chk_alike h)
  refine ⟨?_, by omega, hr⟩
  unfold SQ
  rw [if_pos h, sq_exact _ 0 hr (Int.le_refl _) (by omega), h2, h4, Int.zero_add]
theorem mx_is {A B : List S42} (h : chk A B = 0) : MX A B = ((PP A B).foldl mxStep 0, 0) := by unfold MX; rw [if_pos h]
theorem sq_err (A B : List S42) : (SQ A B).2.2 = chk A B := by
  unfold SQ
  split
  · rename_i h; rw [h]
  · rfl
theorem mx_err (A B : List S42) : (MX A B).2 = chk A B := by
  unfold MX
  split
  · rename_i h; rw [h]
  · rfl
theorem sq_comm {A B : List S42} (hA : Fin A) (fA : few A = true) (hB : Fin B) (fB : few B = true) : SQ A B = SQ B A := by
  by_cases h : chk A B = 0
  · have h' : chk B A = 0 := by rw [chk_comm]; exact h
    rw [(sq_is hA fA h).1, (sq_is hB fB h').1, pp_swap A B, sumsq_swap, List.length_map]
  · have h' : ¬ chk B A = 0 := by rw [chk_comm]; exact h
    unfold SQ
    rw [if_neg h, if_neg h', chk_comm]
theorem mx_le {P Q : List (Int × Int)} (hP : Rng P) (hQ : Rng Q) (h : ∀ d ∈ P, d.swap ∈ Q) : P.foldl mxStep 0 ≤ Q.foldl mxStep 0 := by
  have h1 := mx_spec P 0 hP (Int.le_refl _)
  have h2 := mx_spec Q 0 hQ (Int.le_refl _)
  rcases h1.2.2 with e | ⟨d, hd, e⟩
  · omega
  · have h3 := h2.2.1 _ (h d hd)
    simp only [Prod.fst_swap, Prod.snd_swap] at h3
    omega
theorem mx_comm {A B : List S42} : MX A B = MX B A := by
  by_cases h : chk A B = 0
  · have h' : chk B A = 0 := by rw [chk_comm]; exact h
    rw [mx_is h, mx_is h']
    have w := (chk_ok h).2.2.2.2
    have r1 := pp_rng w.1 w.2
    have r2 := pp_rng w.2 w.1
    have e := pp_swap A B
    have l1 : (PP A B).foldl mxStep 0 ≤ (PP B A).foldl mxStep 0 := mx_le r1 r2 (fun d hd => by rw [e]; exact List.mem_map_of_mem hd)
    have l2 : (PP B A).foldl mxStep 0 ≤ (PP A B).foldl mxStep 0 := mx_le r2 r1 (fun d hd => by rw [pp_swap B A]; exact List.mem_map_of_mem hd)
    rw [show (PP A B).foldl mxStep 0 = (PP B A).foldl mxStep 0 by omega]
  · have h' : ¬ chk B A = 0 := by rw [chk_comm]; exact h
    unfold MX
    rw [if_neg h, if_neg h', chk_comm]
theorem fin_of {A : List S42} {P Q : S42 → Prop} (y : A.length * 56 ≤ 140737488351232) (w : ∀ x ∈ A, P x ∧ (x.f1.length * 8 ≤ 140737488351232 ∧ Q x)) : Fin A :=
  ⟨by omega, fun p hp => by have := (w p hp).2.1; omega⟩
end Go.Proofs.Ytfihdlekeainpaa.Pure
