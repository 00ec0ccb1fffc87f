/- HeadsegCodings: Coding and ParseCoding return the defined segment, parameters or errors. No condition beside the statement's own. Texts of this session, merged by wip/tools/merge.py. -/
import Derived.Test.YtihfopblmjgfaaaMCodings3
import Derived.Laws.BitsLemmas
import Derived.Test.YtihfopblmjgfaaaMCodings1
import Derived.Test.YtihfopblmjgfaaaMCodings4
import Derived.Test.YtihfopblmjgfaaaMCodings5
import Derived.Test.YtihfopblmjgfaaaMCodings0
import Derived.ChangeArms
import Derived.SizedLaws
import Derived.Test.YtihfopblmjgfaaaRows
import Derived.WalkKit
import Derived.ProofKit
import Derived.OpenShut
import Derived.ShutString
import Derived.ChangeOld
import Derived.Below
import Derived.Carry
/- What the functions of chapter 29 compute, in plain lists and numbers: used by the pure laws of this chapter. -/
namespace Go.Proofs.Ytihfopblmjgfaaa.Pure
open Go.RowKit Go.Proofs.Ytihfopblmjgfaaa.Q Go.Proofs.YtihfopblmjgfaaaW.PrintWords
set_option linter.unusedVariables false

theorem awake_holds : ∃ k, waveletlaw29_awake.f k = some true := ⟨100, by kernel_rfl⟩
theorem wf_bd {a : Int} (h : (Lit.int .i64 a).wf = true) : -9223372036854775808 ≤ a ∧ a ≤ 9223372036854775807 := by
  simp [Lit.wf, IntKind.min, IntKind.max, IntKind.signed, IntKind.bits] at h
  omega
theorem wf_u8 {a : Int} (h : (Lit.int .u8 a).wf = true) : 0 ≤ a ∧ a ≤ 255 := by
  simp [Lit.wf, IntKind.min, IntKind.max, IntKind.signed, IntKind.bits] at h
  omega

/-- One byte more. -/
def step (v x : Int) : Int := Go.bits .or .i64 (wrap64 (v * 256)) (wrap64 x)
theorem step_eq {v x : Int} (h0 : 0 ≤ v) (h1 : v < 16777216) (h2 : 0 ≤ x) (h3 : x ≤ 255) : step v x = v * 256 + x := by
  unfold step
  rw [show wrap64 (v * 256) = v * 256 by unfold wrap64; omega, show wrap64 x = x by unfold wrap64; omega]
  exact bits_join .i64 40 (by decide) (fun n a b => by rw [IntKind.wrap_i64]; omega) 8 _ _ (by omega) (by omega) (by omega) h2 (by omega) (by omega)
/-- The number of some bytes. -/
def num (l : List Int) : Int := l.foldl step 0
/-- What ReadUint returns. -/
def RU (l : List Int) (at_ n : Int) : Int × Int :=
  if n < 1 ∨ 4 < n ∨ at_ < 0 ∨ (l.length : Int) < at_ then (0, 2) else if (l.length : Int) - at_ < n then (0, 7) else (num ((l.take (at_ + n).toNat).drop at_.toNat), 0)
theorem ru_loop (m : List Int) (hm : m.length ≤ 4) (d : Nat) : ∀ (k j : Nat) (v : Int), j + d = m.length → marker_ReadUint.l0 (k + d + 1) v m (m.length : Int) (j : Int) = some ((m.drop j).foldl step v, 0) := by
  induction d with
  | zero =>
    intro k j v hj
    rw [show k + 0 + 1 = k + 1 from rfl, marker_ReadUint.l0, if_neg (by omega), List.drop_eq_nil_of_le (by omega)]
    rfl
  | succ d ih =>
    intro k j v hj
    have hlt : j < m.length := by omega
    rw [show k + (d + 1) + 1 = (k + d + 1) + 1 by omega, marker_ReadUint.l0, if_pos (by omega), if_pos (by omega), if_pos (by omega), List.drop_eq_getElem_cons hlt]
    rw [show wrap64 ((j : Int) + 1) = ((j + 1 : Nat) : Int) by unfold wrap64; omega, ih k (j + 1) _ (by omega)]
    unfold rd
    rw [Int.toNat_natCast, List.getD_eq_getElem?_getD, List.getElem?_eq_getElem hlt]
    rfl
theorem ru_eq (l : List Int) (at_ n : Int) (hl : l.length ≤ 1000000) (hat : at_ ≤ 9223372036854775807) (k : Nat) : marker_ReadUint.f (k + 6) l at_ n = some (RU l at_ n) := by
  have hj : marker_ReadUint.j0 (k + 6) l at_ n true = some (0, 2) := by rw [show k + 6 = (k + 5) + 1 from rfl, marker_ReadUint.j0, if_pos rfl]
  unfold marker_ReadUint.f RU
  by_cases h1 : n < 1
  · rw [if_pos h1, if_pos (.inl h1), hj]
  rw [if_neg h1]
  by_cases h2 : n > 4
  · rw [if_pos h2, if_pos (.inr (.inl h2)), hj]
  rw [if_neg h2]
  by_cases h3 : at_ < 0
  · rw [if_pos h3, if_pos (.inr (.inr (.inl h3))), hj]
  rw [if_neg h3]
  by_cases h4 : (l.length : Int) < at_
  · rw [show decide (at_ > (l.length : Int)) = true from decide_eq_true h4, if_pos (.inr (.inr (.inr h4))), hj]
  rw [show decide (at_ > (l.length : Int)) = false from decide_eq_false h4, if_neg (by omega), show k + 6 = (k + 5) + 1 from rfl, marker_ReadUint.j0, if_neg (by simp)]
  rw [show wrap64 ((l.length : Int) - at_) = (l.length : Int) - at_ by unfold wrap64; omega, show wrap64 (at_ + n) = at_ + n by unfold wrap64; omega]
  by_cases h5 : (l.length : Int) - at_ < n
  · rw [if_pos h5, if_pos h5]
  rw [if_neg h5, if_neg h5, if_pos (by omega), if_pos (by omega), if_pos (by omega)]
  have hm : ((l.take (at_ + n).toNat).drop at_.toNat).length = n.toNat := by rw [List.length_drop, List.length_take]; omega
  have := ru_loop ((l.take (at_ + n).toNat).drop at_.toNat) (by omega) n.toNat (k + (4 - n.toNat)) 0 0 (by omega)
  rw [show k + (4 - n.toNat) + n.toNat + 1 = k + 5 by omega] at this
  rw [show (0 : Int) = ((0 : Nat) : Int) from rfl] at *
  rw [this]
  rfl
theorem shift_small (n : Nat) (h : n ≤ 4) : IntKind.u64.wrap (wrap64 (8 * (n : Int))) = ((8 * n : Nat) : Int) := by
  have : IntKind.u64.wrap (wrap64 (8 * (n : Int))) = wrap64 (8 * (n : Int)) % 18446744073709551616 := by simp [IntKind.wrap, IntKind.bits, IntKind.signed]
  rw [this]
  unfold wrap64
  omega

/-- The bytes of a number, the highest first. -/
def be (v : Int) : Nat → List Int
  | 0 => []
  | i + 1 => (v / 2 ^ (8 * i)) % 256 :: be v i
theorem be_length (v : Int) : ∀ n, (be v n).length = n
  | 0 => rfl
  | n + 1 => by simp [be, be_length v n]
theorem shr_eq (v : Int) (m : Nat) (hm : m ≤ 8) : shr .i64 v ((8 * m : Nat) : Int) = v / 2 ^ (8 * m) := by
  unfold shr
  rw [Int.toNat_natCast, Nat.min_eq_left (by show 8 * m ≤ 64; omega)]
theorem shift_eq (n : Nat) (h : n ≤ 8) : IntKind.u64.wrap (wrap64 (8 * (n : Int))) = ((8 * n : Nat) : Int) := by
  have : IntKind.u64.wrap (wrap64 (8 * (n : Int))) = wrap64 (8 * (n : Int)) % 18446744073709551616 := by simp [IntKind.wrap, IntKind.bits, IntKind.signed]
  rw [this]
  unfold wrap64
  omega
theorem put_loop (v : Int) (m : Nat) (hm : m ≤ 8) : ∀ (k : Nat) (acc : List Int), acc.length + m ≤ 140737488355328 → headseg_put.l0 (k + m + 1) acc v ((m : Int) - 1) = some (acc ++ be v m) := by
  induction m with
  | zero =>
    intro k acc ha
    rw [show k + 0 + 1 = k + 1 from rfl, headseg_put.l0, if_neg (by omega)]
    simp [be]
  | succ m ih =>
    intro k acc ha
    rw [show k + (m + 1) + 1 = (k + m + 1) + 1 by omega, headseg_put.l0, if_pos (by omega), show (((m + 1 : Nat) : Int) - 1) = (m : Int) by omega, shift_eq m (by omega), if_pos (by omega), if_pos (by omega), show wrap64 ((m : Int) - 1) = (m : Int) - 1 by unfold wrap64; omega]
    rw [shr_eq v m (by omega), ih (by omega) k _ (by simp; omega)]
    simp [be]
theorem put_eq (acc : List Int) (v : Int) (n : Nat) (hn : n ≤ 8) (ha : acc.length + n ≤ 140737488355328) (k : Nat) : headseg_put.f (k + 9) acc (n : Int) v = some (acc ++ be v n) := by
  unfold headseg_put.f
  rw [show wrap64 ((n : Int) - 1) = (n : Int) - 1 by unfold wrap64; omega]
  have := put_loop v n hn (k + (8 - n)) acc ha
  rwa [show k + (8 - n) + n + 1 = k + 9 by omega] at this
/-- What within returns. -/
def inside (lo hi : Int) (l : List Int) : Bool := l.all fun x => decide (lo ≤ x) && decide (x ≤ hi)
theorem within_loop (lo hi : Int) (l : List Int) (hl : l.length ≤ 9223372036854775807) (d : Nat) : ∀ (k j : Nat), j + d = l.length → headseg_within.l0 (k + d + 1) lo hi l (l.length : Int) (j : Int) = some (inside lo hi (l.drop j)) := by
  induction d with
  | zero =>
    intro k j hj
    rw [show k + 0 + 1 = k + 1 from rfl, headseg_within.l0, if_neg (by omega), List.drop_eq_nil_of_le (by omega)]
    rfl
  | succ d ih =>
    intro k j hj
    have hlt : j < l.length := by omega
    have hrd : rd l (j : Int) = l[j] := by
      unfold rd
      rw [Int.toNat_natCast, List.getD_eq_getElem?_getD, List.getElem?_eq_getElem hlt]
      rfl
    rw [show k + (d + 1) + 1 = (k + d + 1) + 1 by omega, headseg_within.l0, if_pos (by omega), if_pos (by omega), if_pos (by omega), hrd, List.drop_eq_getElem_cons hlt]
    rw [show wrap64 ((j : Int) + 1) = ((j + 1 : Nat) : Int) by unfold wrap64; omega, ih k (j + 1) (by omega)]
    unfold inside
    rw [List.all_cons]
    by_cases h1 : l[j] < lo
    · rw [if_pos h1, decide_eq_false (show ¬ lo ≤ l[j] by omega)]; rfl
    · rw [if_neg h1, decide_eq_true (show lo ≤ l[j] by omega)]
      by_cases h2 : l[j] > hi
      · rw [if_pos h2, decide_eq_false (show ¬ l[j] ≤ hi by omega)]; rfl
      · rw [if_neg h2, decide_eq_true (show l[j] ≤ hi by omega)]; rfl
theorem within_eq (lo hi : Int) (l : List Int) (hl : l.length ≤ 9223372036854775807) (k : Nat) : headseg_within.f (k + l.length + 1) lo hi l = some (inside lo hi l) := by
  have := within_loop lo hi l hl l.length k 0 (by omega)
  simpa [headseg_within.f] using this
end Go.Proofs.Ytihfopblmjgfaaa.Pure

namespace Go.Proofs.Ytihfopblmjgfaaa.Q
open Go.RowKit Go.Proofs.YtihfopblmjgfaaaW.PrintWords Go.Proofs.YtihfopblmjgfaaaW.PrintLast Go.Proofs.YtihfopblmjgfaaaW.PrintMore
attribute [local go_sem] max2_int min2_int max_two min_two max_three min_three max_four min_four   -- for this text's walks alone
set_option linter.unusedVariables false
set_option linter.unusedSimpArgs false

/-! ### waveletref29_get: function 51 -/
def waveletref29_get.l0 : Nat → List Int → Int → Int → Int → Int → Option (Int)
  | 0, _, _, _, _, _ => none
  | k + 1, x0, x1, x2, x7, x8 => if x8 < x2 then (if 0 ≤ (wrap64 (x1 + x8)) then (if (wrap64 (x1 + x8)) < (x0.length : Int) then (waveletref29_get.l0 k x0 x1 x2 (wrap64 ((wrap64 (256 * x7)) + (wrap64 (rd x0 (wrap64 (x1 + x8)))))) (wrap64 (x8 + 1))) else (none)) else (none)) else (some x7)
def waveletref29_get.f (k : Nat) (l0 : List Int) (a1 : Int) (a2 : Int) : Option (Int) := waveletref29_get.l0 k l0 a1 a2 0 0
theorem waveletref29_get.mono_l : ∀ k, (∀ y0 y1 y2 y3 y4, LeO (waveletref29_get.l0 k y0 y1 y2 y3 y4) (waveletref29_get.l0 (k + 1) y0 y1 y2 y3 y4))
  | 0 => fun _ _ _ _ _ r h => by simp [waveletref29_get.l0] at h
  | k + 1 => by
    have ih0 := waveletref29_get.mono_l k
    · intro y0 y1 y2 y3 y4
      unfold waveletref29_get.l0
      repeat' first
      | (with_reducible exact ih0 _ _ _ _ _)
      | (with_reducible exact LeO.refl _)
      | (with_reducible exact LeO.none _)
      | (with_reducible refine LeO.ite ?_ ?_)
      | (with_reducible refine LeO.bind ?_ (fun _ => ?_))
      | exact ih0 _ _ _ _ _
      | exact LeO.none _
      | refine LeO.ite ?_ ?_
      | refine LeO.bind ?_ (fun _ => ?_)
theorem waveletref29_get.mono : ∀ a0 a1 a2 k, LeO (waveletref29_get.f k a0 a1 a2) (waveletref29_get.f (k + 1) a0 a1 a2) := by
  intro a0 a1 a2 k
  have ih0 := waveletref29_get.mono_l k
  unfold waveletref29_get.f
  repeat' first
      | (with_reducible exact ih0 _ _ _ _ _)
      | (with_reducible exact LeO.refl _)
      | (with_reducible exact LeO.none _)
      | (with_reducible refine LeO.ite ?_ ?_)
      | (with_reducible refine LeO.bind ?_ (fun _ => ?_))
      | exact ih0 _ _ _ _ _
      | exact LeO.none _
      | refine LeO.ite ?_ ?_
      | refine LeO.bind ?_ (fun _ => ?_)
set_option maxHeartbeats 8000000 in
set_option maxRecDepth 100000 in
theorem waveletref29_get.calls (k : Nat) (A0 : Option Addr) (c0 : Nat) (l0 : List Int) (a1 : Int) (a2 : Int) (r : Int) (w : World) (hr0 : Kd.C (Kd.int .u8) w A0 l0.length l0) (hc0 : l0.length ≤ c0) (h : waveletref29_get.f k l0 a1 a2 = some r) :
    Calls Try.prog 51 #[.slice A0 l0.length c0, .int .i64 a1, .int .i64 a2] w fun e w' => e = .returned (.int .i64 r) ∧ Drawn0 w w' := by
  have HR0 := Aside0.mk hr0
  have HC0 := Aside0.mk hc0
  clear hr0 hc0
  have H : (waveletref29_get.l0 k l0 a1 a2 0 0) = some r := h
  clear h
  have H' := Aside0.mk H
  clear H
  go_enter Try.func51, Try.ntmps51
  go_wp2
  go_loopg [7, 8] k (fun kq v7 v8 w' => ∃ (x7_1 : Int) (x8_1 : Int), v7 = .int .i64 x7_1 ∧ v8 = .int .i64 x8_1 ∧ Aside0 (waveletref29_get.l0 kq l0 a1 a2 x7_1 x8_1 = some r) ∧ Aside0 (kq ≤ k) ∧ Drawn0 w w')
  case atStart => exact ⟨(0), (0), (by first | rfl | (simp; done) | (simp [*]; done)), (by first | rfl | (simp; done) | (simp [*]; done)), H', ⟨Nat.le_refl _⟩, by repeat (first | exact Drawn0.refl _ | apply Drawn0.step)⟩
  case round =>
    clear H'
    try clear p2
    obtain ⟨x7_1, x8_1, rfl, rfl, HA, HK1, ⟨m1, rfl⟩⟩ := hrel
    cases gk with
    | zero => exact absurd HA.out (by simp [waveletref29_get.l0])
    | succ k1 =>
      have H := HA.out
      clear HA
      simp only [waveletref29_get.l0] at H
      by_cases c4 : x8_1 < a2
      · rw [if_pos c4] at H
        have c4b0 : decide (x8_1 < a2) = true := decide_eq_true c4
        clear c4
        obtain ⟨ji5, hji5⟩ : ∃ j_ : Int, (wrap64 (a1 + x8_1)) = j_ := ⟨_, rfl⟩
        replace H : (if 0 ≤ (ji5) then (if (ji5) < (l0.length : Int) then (waveletref29_get.l0 k1 l0 a1 a2 (wrap64 ((wrap64 (256 * x7_1)) + (wrap64 (rd l0 (ji5))))) (wrap64 (x8_1 + 1))) else (none)) else (none)) = some r := by first | (rw [hji5] at H; exact H) | (simp only [hji5] at H ⊢; exact H)
        have hji5w : (IntKind.i64.wrap (a1 + x8_1)) = ji5 := (i64_w _).trans hji5
        by_cases c6 : 0 ≤ (ji5)
        · rw [if_pos c6] at H
          have c6b0 : decide (0 ≤ (ji5)) = true := decide_eq_true c6
          clear c6
          by_cases c7 : (ji5) < (l0.length : Int)
          · rw [if_pos c7] at H
            have c7b0 : decide ((ji5) < (l0.length : Int)) = true := decide_eq_true c7
            clear c7
            have H' := Aside0.mk H
            clear H
            have p132 : 0 ≤ ((ji5) : Int) := of_decide_eq_true (by first | (with_reducible assumption) | assumption)
            have q132 : (ji5) < (l0.length : Int) := of_decide_eq_true (by first | (with_reducible assumption) | assumption)
            obtain ⟨ad132, e132, hx132_0⟩ := Kd.at_int HR0.out (ji5) p132 q132
            cases e132
            replace p132 := eq_true p132
            replace q132 := eq_true q132
            go_wp2
            go_roundg k1
            case measure => have := HK1.out; omega
            case rel => exact ⟨(wrap64 ((wrap64 (256 * x7_1)) + (wrap64 (rd l0 (ji5))))), (wrap64 (x8_1 + 1)), (by first | rfl | (simp; done) | (simp only [← hji5] <;> (first | rfl | simp)) | (simp [*]; done)), (by first | rfl | (simp; done) | (simp [*]; done)), H', ⟨by have := HK1.out; omega⟩, by repeat (first | exact Drawn0.refl _ | apply Drawn0.step)⟩
          · rw [if_neg c7] at H
            exact absurd H (by simp)
        · rw [if_neg c6] at H
          exact absurd H (by simp)
      · rw [if_neg c4] at H
        have c4b0 : decide (x8_1 < a2) = false := decide_eq_false c4
        clear c4
        obtain rfl := Option.some.inj H
        go_wp2
        go_ret
        exact ⟨by first | rfl | (simp; done) | (simp [*]; done), by repeat (first | exact Drawn0.refl _ | apply Drawn0.step)⟩

end Go.Proofs.Ytihfopblmjgfaaa.Q

/- What the reference's small functions of chapter 29 compute: the same. -/
namespace Go.Proofs.Ytihfopblmjgfaaa.Pure
open Go.RowKit Go.Proofs.Ytihfopblmjgfaaa.Q Go.Proofs.YtihfopblmjgfaaaW.PrintWords
set_option linter.unusedVariables false

theorem rin_eq (a lo hi : Int) : waveletref29_in.f a lo hi = some (decide (lo ≤ a) && decide (a ≤ hi)) := by
  unfold waveletref29_in.f
  by_cases h : lo ≤ a
  · rw [if_pos h, decide_eq_true h]; rfl
  · rw [if_neg h, decide_eq_false h]; rfl
theorem rshift_eq (n : Nat) (h : n ≤ 8) : wrap64 (8 * (n : Int)) = ((8 * n : Nat) : Int) := by
  unfold wrap64
  omega
theorem rput_loop (v : Int) (m : Nat) (hm : m ≤ 8) : ∀ (k : Nat) (acc : List Int), acc.length + m ≤ 140737488355328 → waveletref29_put.l0 (k + m + 1) acc v ((m : Int) - 1) = some (acc ++ be v m) := by
  induction m with
  | zero =>
    intro k acc ha
    rw [show k + 0 + 1 = k + 1 from rfl, waveletref29_put.l0, if_neg (by omega)]
    simp [be]
  | succ m ih =>
    intro k acc ha
    rw [show k + (m + 1) + 1 = (k + m + 1) + 1 by omega, waveletref29_put.l0, if_pos (by omega), show (((m + 1 : Nat) : Int) - 1) = (m : Int) by omega, rshift_eq m (by omega), if_pos (by omega), if_pos (by omega), show wrap64 ((m : Int) - 1) = (m : Int) - 1 by unfold wrap64; omega]
    rw [shr_eq v m (by omega), ih (by omega) k _ (by simp; omega)]
    simp [be]
theorem rput_eq (acc : List Int) (v : Int) (n : Nat) (hn : n ≤ 8) (ha : acc.length + n ≤ 140737488355328) (k : Nat) : waveletref29_put.f (k + 9) acc v (n : Int) = some (acc ++ be v n) := by
  unfold waveletref29_put.f
  rw [show wrap64 ((n : Int) - 1) = (n : Int) - 1 by unfold wrap64; omega]
  have := rput_loop v n hn (k + (8 - n)) acc ha
  rwa [show k + (8 - n) + n + 1 = k + 9 by omega] at this
/-- Some bytes of a list of bytes. -/
def sub (l : List Int) (a n : Nat) : List Int := (l.take (a + n)).drop a
theorem sub_length (l : List Int) (a n : Nat) (h : a + n ≤ l.length) : (sub l a n).length = n := by
  unfold sub
  rw [List.length_drop, List.length_take]
  omega
theorem rd_bytes {l : List Int} (hb : ∀ x ∈ l, (Lit.int .u8 x).wf = true) (i : Nat) (hi : i < l.length) : rd l (i : Int) = l[i] ∧ 0 ≤ l[i] ∧ l[i] ≤ 255 := by
  refine ⟨?_, wf_u8 (hb _ (List.getElem_mem hi))⟩
  unfold rd
  rw [Int.toNat_natCast, List.getD_eq_getElem?_getD, List.getElem?_eq_getElem hi]
  rfl
theorem get_loop {l : List Int} (hb : ∀ x ∈ l, (Lit.int .u8 x).wf = true) (hl : l.length ≤ 1000000) (a n : Nat) (hn : n ≤ 4) (han : a + n ≤ l.length) (d : Nat) : ∀ (k j : Nat) (v : Int), j + d = n → 0 ≤ v → v < 256 ^ j →
    waveletref29_get.l0 (k + d + 1) l (a : Int) (n : Int) v (j : Int) = some (((sub l a n).drop j).foldl step v) := by
  have hm := sub_length l a n han
  induction d with
  | zero =>
    intro k j v hj _ _
    rw [show k + 0 + 1 = k + 1 from rfl, waveletref29_get.l0, if_neg (by omega), List.drop_eq_nil_of_le (by omega)]
    rfl
  | succ d ih =>
    intro k j v hj h0 h1
    have hlt : j < (sub l a n).length := by omega
    have hi : a + j < l.length := by omega
    obtain ⟨hrd, hx0, hx1⟩ := rd_bytes hb (a + j) hi
    have he : (sub l a n)[j] = l[a + j] := by simp only [sub, List.getElem_drop, List.getElem_take]
    have hv : v < 16777216 := by
      have hj : j = 0 ∨ j = 1 ∨ j = 2 ∨ j = 3 := by omega
      rcases hj with rfl | rfl | rfl | rfl <;> simp at h1 <;> omega
    have hs : wrap64 (wrap64 (256 * v) + wrap64 l[a + j]) = step v l[a + j] := by
      rw [step_eq h0 hv hx0 hx1]
      unfold wrap64
      omega
    rw [show k + (d + 1) + 1 = (k + d + 1) + 1 by omega, waveletref29_get.l0, if_pos (by omega), show wrap64 ((a : Int) + (j : Int)) = ((a + j : Nat) : Int) by unfold wrap64; omega, if_pos (by omega), if_pos (by omega), hrd, hs, List.drop_eq_getElem_cons hlt]
    rw [show wrap64 ((j : Int) + 1) = ((j + 1 : Nat) : Int) by unfold wrap64; omega, ih k (j + 1) _ (by omega) (by rw [step_eq h0 hv hx0 hx1]; omega) (by rw [step_eq h0 hv hx0 hx1, Int.pow_succ]; omega), he]
    rfl
theorem get_eq {l : List Int} (hb : ∀ x ∈ l, (Lit.int .u8 x).wf = true) (hl : l.length ≤ 1000000) (a n : Nat) (hn : n ≤ 4) (han : a + n ≤ l.length) (k : Nat) : waveletref29_get.f (k + 6) l (a : Int) (n : Int) = some (num (sub l a n)) := by
  have := get_loop hb hl a n hn han n (k + (5 - n)) 0 0 (by omega) (by omega) (by simp)
  rw [show k + (5 - n) + n + 1 = k + 6 by omega] at this
  simpa [waveletref29_get.f, num] using this
/-- ReadUint at a place within. -/
theorem RU_in (l : List Int) (a n : Nat) (h1 : 1 ≤ n) (hn : n ≤ 4) (han : a + n ≤ l.length) : RU l (a : Int) (n : Int) = (num (sub l a n), 0) := by
  unfold RU
  rw [if_neg (by omega), if_neg (by omega)]
  rfl
theorem RU_out (l : List Int) (a n : Nat) (h1 : 1 ≤ n) (hn : n ≤ 4) (ha : a ≤ l.length) (han : l.length < a + n) : RU l (a : Int) (n : Int) = (0, 7) := by
  unfold RU
  rw [if_neg (by omega), if_pos (by omega)]
theorem same_loop (a : List Int) (ha : a.length ≤ 1000000000000) (d : Nat) : ∀ (k j : Nat), j + d = a.length → waveletlaw29_same.l0 (k + d + 1) a a (a.length : Int) (j : Int) = some true := by
  induction d with
  | zero =>
    intro k j hj
    rw [show k + 0 + 1 = k + 1 from rfl, waveletlaw29_same.l0, if_neg (by omega)]
  | succ d ih =>
    intro k j hj
    rw [show k + (d + 1) + 1 = (k + d + 1) + 1 by omega, waveletlaw29_same.l0, if_pos (by omega), if_pos (by omega), if_pos (by omega), if_pos (by omega), if_pos rfl]
    rw [show wrap64 ((j : Int) + 1) = ((j + 1 : Nat) : Int) by unfold wrap64; omega, ih k (j + 1) (by omega)]
theorem same_refl (a : List Int) (ha : a.length ≤ 1000000000000) (k : Nat) : waveletlaw29_same.f (k + a.length + 1) a a = some true := by
  have := same_loop a ha a.length k 0 (by omega)
  simpa [waveletlaw29_same.f] using this
theorem sameSegment_refl (c : Int) (a : List Int) (ha : a.length ≤ 1000000000000) (k : Nat) : waveletlaw29_sameSegment.f (k + a.length + 1) c a c a = some true := by
  unfold waveletlaw29_sameSegment.f
  rw [if_pos rfl, same_refl a ha k]
  rfl
theorem framed_eq (c : Int) (l : List Int) (code n : Int) : waveletref29_framed.f c l code n = some (if c = code then (if (l.length : Int) < n then 7 else if (l.length : Int) > n then 9 else 0) else 11) := by
  unfold waveletref29_framed.f
  repeat' split
  all_goals rfl
end Go.Proofs.Ytihfopblmjgfaaa.Pure

/- Lengths in plain lists and numbers. -/
namespace Go.Proofs.Ytihfopblmjgfaaa.Pure
open Go.RowKit Go.Proofs.Ytihfopblmjgfaaa.Q Go.Proofs.YtihfopblmjgfaaaW.PrintWords
set_option linter.unusedVariables false
set_option maxRecDepth 100000

theorem Ev.pos {α : Type} {c : Prop} [Decidable c] {f g : Nat → Option α} {r : α} (h : c) (k : Ev f r) : Ev (fun n => if c then f n else g n) r := by
  obtain ⟨K, hk⟩ := k
  exact ⟨K, fun n hn => (if_pos h).trans (hk n hn)⟩
theorem Ev.neg {α : Type} {c : Prop} [Decidable c] {f g : Nat → Option α} {r : α} (h : ¬ c) (k : Ev g r) : Ev (fun n => if c then f n else g n) r := by
  obtain ⟨K, hk⟩ := k
  exact ⟨K, fun n hn => (if_neg h).trans (hk n hn)⟩
theorem Ev.plus {α : Type} {f : Nat → Option α} {r : α} (m : Nat) (h : ∀ k, f (k + m) = some r) : Ev f r :=
  ⟨m, fun n hn => by rw [← h (n - m)]; congr 1; omega⟩
theorem Ev.val {α : Type} {f : Nat → Option α} {r : α} (h : Ev f r) : ∃ K, ∀ k, K ≤ k → f k = some r := h
theorem ev_put (acc : List Int) (v : Int) (n : Nat) (hn : n ≤ 8) (ha : acc.length + n ≤ 140737488355328) : Ev (fun k => headseg_put.f k acc (n : Int) v) (acc ++ be v n) := Ev.plus 9 (put_eq acc v n hn ha)
theorem ev_rput (acc : List Int) (v : Int) (n : Nat) (hn : n ≤ 8) (ha : acc.length + n ≤ 140737488355328) : Ev (fun k => waveletref29_put.f k acc v (n : Int)) (acc ++ be v n) := Ev.plus 9 (rput_eq acc v n hn ha)
theorem ev_within (lo hi : Int) (l : List Int) (hl : l.length ≤ 9223372036854775807) : Ev (fun k => headseg_within.f k lo hi l) (inside lo hi l) :=
  Ev.plus (l.length + 1) (fun k => by rw [← Nat.add_assoc]; exact within_eq lo hi l hl k)
theorem ev_awake : Ev (fun k => waveletlaw29_awake.f k) true := by
  obtain ⟨k, h⟩ := awake_holds
  exact Ev.of waveletlaw29_awake.mono h
theorem ev_ru (l : List Int) (a n : Int) (hl : l.length ≤ 1000000) (ha : a ≤ 9223372036854775807) : Ev (fun k => marker_ReadUint.f k l a n) (RU l a n) := Ev.plus 6 (ru_eq l a n hl ha)
theorem ev_get {l : List Int} (hb : ∀ x ∈ l, (Lit.int .u8 x).wf = true) (hl : l.length ≤ 1000000) (a n : Nat) (hn : n ≤ 4) (han : a + n ≤ l.length) : Ev (fun k => waveletref29_get.f k l (a : Int) (n : Int)) (num (sub l a n)) := Ev.plus 6 (get_eq hb hl a n hn han)
theorem ev_same (a : List Int) (ha : a.length ≤ 1000000000000) : Ev (fun k => waveletlaw29_same.f k a a) true := Ev.plus (a.length + 1) (fun k => by rw [← Nat.add_assoc]; exact same_refl a ha k)
theorem ev_sameSegment (c : Int) (a : List Int) (ha : a.length ≤ 1000000000000) : Ev (fun k => waveletlaw29_sameSegment.f k c a c a) true := Ev.plus (a.length + 1) (fun k => by rw [← Nat.add_assoc]; exact sameSegment_refl c a ha k)

theorem rd_at {l : List Int} (i : Nat) (hi : i < l.length) : rd l (i : Int) = l[i] := by
  unfold rd
  rw [Int.toNat_natCast, List.getD_eq_getElem?_getD, List.getElem?_eq_getElem hi]
  rfl
/-- The bytes of some numbers. -/
def enc4 : List Int → List Int
  | [] => []
  | v :: l => be v 4 ++ enc4 l
theorem enc4_length : ∀ l : List Int, (enc4 l).length = 4 * l.length
  | [] => rfl
  | v :: l => by simp [enc4, be_length, enc4_length l]; omega
/-- The numbers of the segment i. -/
def chunk (l : List Int) (i : Nat) : List Int := (l.drop (16000 * i)).take 16000
def segAt (c : Int) (l : List Int) (i : Nat) : S26 := ⟨c, (i : Int) % 256 :: enc4 (chunk l i)⟩
def nseg (l : List Int) : Nat := max 1 ((l.length + 15999) / 16000)
/-- The segments from number i on. -/
def segsFrom (c : Int) (l : List Int) : Nat → Nat → List S26
  | _, 0 => []
  | i, d + 1 => segAt c l i :: segsFrom c l (i + 1) d
def LenF (c : Int) (l : List Int) : List S26 × Int :=
  if ¬ (c = 65445 ∨ c = 65457) then ([], 3) else if inside 0 4294967295 l then (segsFrom c l 0 (nseg l), 0) else ([], 2)
theorem len_inner {R : List S26 × Int} (c : Int) (l : List Int) (acc : List S26) (x7 : Int) (m : List Int) (hm : m.length ≤ 40000) (hacc : acc.length ≤ 1000) (d : Nat) : ∀ (j : Nat) (x8 : List Int), j + d = m.length → x8.length ≤ 4 * j + 1 →
    Ev (fun k => headseg_Lengths.l0 k c l (acc ++ [(⟨c, x8 ++ enc4 (m.drop j)⟩ : S26)]) (wrap64 (x7 + 16000))) R → Ev (fun k => headseg_Lengths.l1 k c l acc x7 x8 m (m.length : Int) (j : Int)) R := by
  induction d with
  | zero =>
    intro j x8 hj hx h
    refine Ev.step (fun k => headseg_Lengths.l1.eq_2 ..) (Ev.neg (by omega) (Ev.pos (by omega) ?_))
    rw [List.drop_eq_nil_of_le (by omega)] at h
    simpa [enc4] using h
  | succ d ih =>
    intro j x8 hj hx h
    refine Ev.step (fun k => headseg_Lengths.l1.eq_2 ..) (Ev.pos (by omega) (Ev.pos (by omega) (Ev.pos (by omega) (Ev.bind (ev_put x8 _ 4 (by omega) (by omega)) ?_))))
    rw [show wrap64 ((j : Int) + 1) = ((j + 1 : Nat) : Int) by unfold wrap64; omega]
    refine ih (j + 1) _ (by omega) (by simp [be_length]; omega) ?_
    rw [List.drop_eq_getElem_cons (show j < m.length by omega)] at h
    rw [rd_at j (by omega)]
    simpa [enc4] using h
theorem cut_chunk (l : List Int) (i : Nat) (x : Int) (hx : x = mn (((16000 * i : Nat) : Int) + 16000) (l.length : Int)) : (l.take x.toNat).drop (16000 * i) = chunk l i := by
  subst hx
  unfold chunk mn
  rw [List.drop_take]
  rcases Nat.lt_or_ge l.length (16000 * i + 16000) with h | h
  · rw [List.take_of_length_le (l := l.drop (16000 * i)) (i := 16000) (by rw [List.length_drop]; omega), List.take_of_length_le]
    rw [List.length_drop]
    split <;> omega
  · congr 1
    split <;> omega
theorem len_outer (c : Int) (l : List Int) (hl : l.length ≤ 40000) (d : Nat) : ∀ (i : Nat) (acc : List S26), i + d = nseg l → acc.length ≤ i → Ev (fun k => headseg_Lengths.l0 k c l acc ((16000 * i : Nat) : Int)) (acc ++ segsFrom c l i d, 0) := by
  have hn : nseg l ≤ 3 := by unfold nseg; omega
  induction d with
  | zero =>
    intro i acc hi ha
    have h1 : 1 ≤ i ∧ l.length ≤ 16000 * i := by unfold nseg at hi; omega
    refine Ev.step (fun k => headseg_Lengths.l0.eq_2 ..) (Ev.neg (by omega) (Ev.step (fun k => headseg_Lengths.j2.eq_2 ..) (Ev.neg ?_ ?_)))
    · simp; omega
    · simpa [segsFrom] using Ev.now (acc, (0 : Int))
  | succ d ih =>
    intro i acc hi ha
    have h1 : i = 0 ∨ 16000 * i < l.length := by unfold nseg at hi; omega
    have hmn : mn (wrap64 (((16000 * i : Nat) : Int) + 16000)) (l.length : Int) = mn (((16000 * i : Nat) : Int) + 16000) (l.length : Int) := by
      rw [show wrap64 (((16000 * i : Nat) : Int) + 16000) = ((16000 * i : Nat) : Int) + 16000 by unfold wrap64; omega]
    have hb : ((16000 * i : Nat) : Int) ≤ mn (((16000 * i : Nat) : Int) + 16000) (l.length : Int) ∧ mn (((16000 * i : Nat) : Int) + 16000) (l.length : Int) ≤ (l.length : Int) := by
      unfold mn
      split <;> omega
    have key : Ev (fun k => headseg_Lengths.j2 k c l acc ((16000 * i : Nat) : Int) true) (acc ++ segsFrom c l i (d + 1), 0) := by
      refine Ev.step (fun k => headseg_Lengths.j2.eq_2 ..) (Ev.pos rfl (Ev.pos (by omega) (Ev.pos (by rw [hmn]; omega) (Ev.pos (by rw [hmn]; omega) ?_))))
      rw [hmn, show (((16000 * i : Nat) : Int)).toNat = 16000 * i by omega, cut_chunk l i _ rfl]
      have hd : wrap64 (Int.tdiv ((16000 * i : Nat) : Int) 16000) % 256 = (i : Int) % 256 := by
        rw [show Int.tdiv ((16000 * i : Nat) : Int) 16000 = (i : Int) by rw [Int.tdiv_eq_ediv_of_nonneg (by omega)]; omega]
        unfold wrap64
        omega
      rw [hd]
      have hcl : (chunk l i).length ≤ 40000 := by unfold chunk; rw [List.length_take, List.length_drop]; omega
      refine len_inner c l acc _ (chunk l i) hcl (by omega) (chunk l i).length 0 _ (by omega) (by simp) ?_
      rw [show wrap64 (((16000 * i : Nat) : Int) + 16000) = ((16000 * (i + 1) : Nat) : Int) by unfold wrap64; omega]
      have := ih (i + 1) (acc ++ [segAt c l i]) (by omega) (by simp; omega)
      simpa [segsFrom, segAt] using this
    refine Ev.step (fun k => headseg_Lengths.l0.eq_2 ..) ?_
    by_cases h0 : i = 0
    · subst h0
      exact Ev.pos (by omega) key
    · refine Ev.neg (by omega) ?_
      rw [decide_eq_true (show ((16000 * i : Nat) : Int) < (l.length : Int) by omega)]
      exact key
theorem len_ev (c : Int) (l : List Int) (hl : l.length ≤ 40000) : Ev (fun k => headseg_Lengths.f k c l) (LenF c l) := by
  have hj : Ev (fun k => headseg_Lengths.j0 k c l true) ([], 3) := Ev.step (fun k => headseg_Lengths.j0.eq_2 ..) (Ev.pos rfl (Ev.now _))
  have hk : Ev (fun k => headseg_Lengths.j0 k c l false) (if inside 0 4294967295 l then (segsFrom c l 0 (nseg l), 0) else ([], 2)) := by
    refine Ev.step (fun k => headseg_Lengths.j0.eq_2 ..) (Ev.neg (by simp) (Ev.neg (by omega) (Ev.bind (ev_within 0 4294967295 l (by omega)) ?_)))
    cases hw : inside 0 4294967295 l with
    | true => exact Ev.pos rfl (by have := len_outer c l hl (nseg l) 0 [] (by omega) (by simp); simpa using this)
    | false => exact Ev.neg (by simp) (Ev.now _)
  unfold LenF
  refine Ev.congr (fun k => headseg_Lengths.f.eq_1 ..) ?_
  by_cases h1 : c = 65445
  · rw [if_neg (fun h => h (.inl h1))]
    exact Ev.pos h1 hk
  · refine Ev.neg h1 ?_
    by_cases h2 : c = 65457
    · rw [if_neg (fun h => h (.inr h2)), show (c != 65457) = false by simp [h2]]
      exact hk
    · rw [if_pos (by omega), show (c != 65457) = true by simp [h2]]
      exact hj
theorem seg_length (c : Int) (l : List Int) (i : Nat) : (segAt c l i).f1.length ≤ 64001 := by
  simp only [segAt, List.length_cons, enc4_length, chunk, List.length_take]
  omega
theorem segsFrom_length (c : Int) (l : List Int) : ∀ (d i : Nat), (segsFrom c l i d).length = d
  | 0, i => rfl
  | d + 1, i => by simp [segsFrom, segsFrom_length c l d]
theorem segsFrom_get (c : Int) (l : List Int) : ∀ (d i j : Nat) (h : j < (segsFrom c l i d).length), (segsFrom c l i d)[j] = segAt c l (i + j)
  | 0, i, j, h => by simp [segsFrom] at h
  | d + 1, i, 0, h => by simp [segsFrom]
  | d + 1, i, j + 1, h => by
    simp only [segsFrom, List.getElem_cons_succ]
    rw [segsFrom_get c l d (i + 1) j]
    congr 1
    omega
end Go.Proofs.Ytihfopblmjgfaaa.Pure

/- Reading numbers, in the limit. -/
namespace Go.Proofs.Ytihfopblmjgfaaa.Pure
open Go.RowKit Go.Proofs.Ytihfopblmjgfaaa.Q Go.Proofs.YtihfopblmjgfaaaW.PrintWords
set_option linter.unusedVariables false
set_option maxRecDepth 100000
theorem ev_rdn {ρ : Type} {l : List Int} {p n : Int} {bad : Int → ρ} {f : Nat → Int → Option ρ} {v : Int} {r : ρ} (h : Ev (fun k => marker_ReadUint.f k l p n) (v, 0)) (hf : Ev (fun k => f k v) r) : Ev (fun k => rdn k l p n bad (f k)) r := Ev.bind h (Ev.pos rfl hf)
theorem ev_rdn_bad {ρ : Type} {l : List Int} {p n : Int} {bad : Int → ρ} {f : Nat → Int → Option ρ} {v e : Int} (he : e ≠ 0) (h : Ev (fun k => marker_ReadUint.f k l p n) (v, e)) : Ev (fun k => rdn k l p n bad (f k)) (bad e) := Ev.bind h (Ev.neg he (Ev.now _))
theorem ev_in (l : List Int) (hl : l.length ≤ 1000000) (a n : Nat) (h1 : 1 ≤ n) (hn : n ≤ 4) (han : a + n ≤ l.length) : Ev (fun k => marker_ReadUint.f k l (a : Int) (n : Int)) (num (sub l a n), 0) := by
  have := ev_ru l (a : Int) (n : Int) hl (by omega)
  rwa [RU_in l a n h1 hn han] at this
theorem ev_out (l : List Int) (hl : l.length ≤ 1000000) (a n : Nat) (h1 : 1 ≤ n) (hn : n ≤ 4) (ha : a ≤ l.length) (han : l.length < a + n) : Ev (fun k => marker_ReadUint.f k l (a : Int) (n : Int)) (0, 7) := by
  have := ev_ru l (a : Int) (n : Int) hl (by omega)
  rwa [RU_out l a n h1 hn ha han] at this
theorem sub_one (l : List Int) (a : Nat) (h : a < l.length) : sub l a 1 = [l[a]] := by
  unfold sub
  rw [List.drop_take, show a + 1 - a = 1 by omega, List.drop_eq_getElem_cons h]
  rfl
theorem num_one {l : List Int} (hb : ∀ x ∈ l, (Lit.int .u8 x).wf = true) (a : Nat) (h : a < l.length) : num (sub l a 1) = l[a] := by
  rw [sub_one l a h]
  obtain ⟨h0, h1⟩ := wf_u8 (hb _ (List.getElem_mem h))
  simp only [num, List.foldl]
  rw [step_eq (by omega) (by omega) h0 h1]
  omega
theorem getD_at {l : List Int} (i : Nat) (h : i < l.length) : l.getD i 0 = l[i] := by
  rw [List.getD_eq_getElem?_getD, List.getElem?_eq_getElem h]
  rfl
end Go.Proofs.Ytihfopblmjgfaaa.Pure

/- Coding: what it computes. Printed by wip/tools/genPureCoding.py of this session. -/
namespace Go.Proofs.Ytihfopblmjgfaaa.Pure
open Go.RowKit Go.Proofs.Ytihfopblmjgfaaa.Q Go.Proofs.YtihfopblmjgfaaaW.PrintWords
set_option linter.unusedVariables false
set_option maxRecDepth 100000

/-- The number of the first i flags. -/
def part (fl : List Bool) : Nat → Int
  | 0 => 0
  | i + 1 => part fl i + (if bat fl (i : Int) = true then 2 ^ i else 0)
theorem part_or : ∀ b0 b1 b2 b3 b4 b5 b6 b7 : Bool, ∀ i : Fin 8, bat [b0, b1, b2, b3, b4, b5, b6, b7] ((i.val : Nat) : Int) = true → Go.bits .or .i64 (part [b0, b1, b2, b3, b4, b5, b6, b7] i.val) (wrap64 (2 ^ min ((i.val : Nat) : Int).toNat 64)) = part [b0, b1, b2, b3, b4, b5, b6, b7] (i.val + 1) := by decide +kernel
theorem part_le : ∀ b0 b1 b2 b3 b4 b5 b6 b7 : Bool, 0 ≤ part [b0, b1, b2, b3, b4, b5, b6, b7] 8 ∧ part [b0, b1, b2, b3, b4, b5, b6, b7] 8 ≤ 255 := by decide +kernel
theorem part_none (fl : List Bool) (i : Nat) (h : bat fl (i : Int) = false) : part fl (i + 1) = part fl i := by simp [part, h]
/-- The numbers' bytes. -/
def enc1 : List Int → List Int
  | [] => []
  | v :: l => v % 256 :: enc1 l
theorem enc1_length : ∀ l : List Int, (enc1 l).length = l.length
  | [] => rfl
  | v :: l => by simp [enc1, enc1_length l]
/-- The precincts' bytes. -/
def encP : List S89 → List Int
  | [] => []
  | q :: l => wrap64 (q.f0 + wrap64 (16 * q.f1)) % 256 :: encP l
theorem encP_length : ∀ l : List S89, (encP l).length = l.length
  | [] => rfl
  | v :: l => by simp [encP, encP_length l]
def precOK : List S89 → Bool
  | [] => true
  | q :: l => ((decide (0 ≤ q.f0) && decide (q.f0 ≤ 15)) && (decide (0 ≤ q.f1) && decide (q.f1 ≤ 15))) && precOK l
theorem rdP_at {s : List S89} (i : Nat) (hi : i < s.length) : rd_T89 s (i : Int) = s[i] := by
  unfold rd_T89
  rw [Int.toNat_natCast, List.getD_eq_getElem?_getD, List.getElem?_eq_getElem hi]
  rfl
/-- What comes of the precincts, behind the bytes b. -/
def CodC (t : List S89) (b : List Int) : Int × List Int × Int := if precOK t = true then (65442, b ++ encP t, 0) else (0, [], 2)
theorem CodC_cons (q : S89) (t : List S89) (b : List Int) : CodC (q :: t) b = if ((decide (0 ≤ q.f0) && decide (q.f0 ≤ 15)) && (decide (0 ≤ q.f1) && decide (q.f1 ≤ 15))) = true then CodC t (b ++ [wrap64 (q.f0 + wrap64 (16 * q.f1)) % 256]) else (0, [], 2) := by
  unfold CodC
  rw [precOK, encP]
  generalize ((decide (0 ≤ q.f0) && decide (q.f0 ≤ 15)) && (decide (0 ≤ q.f1) && decide (q.f1 ≤ 15))) = c
  cases c
  · simp
  · simp
theorem hcC_ev (t : List S89) (ht : t.length ≤ 1000) (n : Nat) : ∀ (i : Nat) (b : List Int), i + n = t.length → b.length ≤ 1000 + i → Ev (fun k => hcC k t b (i : Int)) (CodC (t.drop i) b) := by
  induction n with
  | zero =>
    intro i b hi hb
    rw [List.drop_eq_nil_of_le (by omega)]
    exact Ev.step (fun k => hcC.eq_2 ..) (Ev.neg (by omega) (by simpa [CodC, precOK, encP] using Ev.now ((65442 : Int), b, (0 : Int))))
  | succ n ih =>
    intro i b hi hb
    have hlt : i < t.length := by omega
    have w1 := ev_within 0 15 [t[i].f0, t[i].f1] (by simp)
    rw [show inside 0 15 [t[i].f0, t[i].f1] = ((decide (0 ≤ t[i].f0) && decide (t[i].f0 ≤ 15)) && (decide (0 ≤ t[i].f1) && decide (t[i].f1 ≤ 15))) by simp [inside]] at w1
    rw [List.drop_eq_getElem_cons hlt, CodC_cons]
    refine Ev.step (fun k => hcC.eq_2 ..) (Ev.pos (by omega) (Ev.pos (by omega) ?_))
    rw [rdP_at i hlt, show wrap64 ((i : Int) + 1) = ((i + 1 : Nat) : Int) by unfold wrap64; omega]
    refine Ev.bind w1 ?_
    generalize ((decide (0 ≤ t[i].f0) && decide (t[i].f0 ≤ 15)) && (decide (0 ≤ t[i].f1) && decide (t[i].f1 ≤ 15))) = c
    cases c with
    | false => exact Ev.neg (by simp) (by simpa using Ev.now ((0 : Int), ([] : List Int), (2 : Int)))
    | true =>
      rw [if_pos rfl]
      exact Ev.pos rfl (Ev.pos (by omega) (ih (i + 1) _ (by omega) (by simp; omega)))
theorem hcB_ev (t : List S89) (ht : t.length ≤ 1000) (L : List Int) (hL : L.length ≤ 100) (n : Nat) : ∀ (i : Nat) (b : List Int), i + n = L.length → b.length ≤ i → Ev (fun k => hcB k t L b (i : Int)) (CodC t (b ++ enc1 (L.drop i))) := by
  induction n with
  | zero =>
    intro i b hi hb
    rw [List.drop_eq_nil_of_le (by omega)]
    refine Ev.step (fun k => hcB.eq_2 ..) (Ev.neg (by omega) ?_)
    have := hcC_ev t ht t.length 0 b (by omega) (by omega)
    simpa [enc1] using this
  | succ n ih =>
    intro i b hi hb
    have hlt : i < L.length := by omega
    refine Ev.step (fun k => hcB.eq_2 ..) (Ev.pos (by omega) (Ev.pos (by omega) (Ev.pos (by omega) ?_)))
    rw [rd_at i hlt, show wrap64 ((i : Int) + 1) = ((i + 1 : Nat) : Int) by unfold wrap64; omega, List.drop_eq_getElem_cons hlt]
    have := ih (i + 1) (b ++ [L[i] % 256]) (by omega) (by simp; omega)
    simpa [enc1] using this
theorem hcA_ev (t : List S89) (ht : t.length ≤ 1000) (b0 b1 b2 b3 b4 b5 b6 b7 : Bool) (x0 x1 x2 x3 x4 x6 x7 x18 : Int) (n : Nat) : ∀ (i : Nat), i + n = 8 → Ev (fun k => hcA k t [b0, b1, b2, b3, b4, b5, b6, b7] [x0, x1, x2, x3, x4, x6, x7, part [b0, b1, b2, b3, b4, b5, b6, b7] i, x18] (i : Int)) (CodC t (enc1 [x0, x1, x2, x3, x4, x6, x7, part [b0, b1, b2, b3, b4, b5, b6, b7] 8, x18, (t.length : Int)])) := by
  induction n with
  | zero =>
    intro i hi
    obtain rfl : i = 8 := by omega
    refine Ev.step (fun k => hcA.eq_2 ..) (Ev.neg (by omega) ?_)
    exact hcB_ev t ht [x0, x1, x2, x3, x4, x6, x7, part [b0, b1, b2, b3, b4, b5, b6, b7] 8, x18, (t.length : Int)] (by simp) 10 0 [] (by simp) (by simp)
  | succ n ih =>
    intro i hi
    have hw : wrap64 ((i : Int) + 1) = ((i + 1 : Nat) : Int) := by unfold wrap64; omega
    refine Ev.step (fun k => hcA.eq_2 ..) (Ev.pos (by omega) (Ev.pos (by omega) ?_))
    rw [hw]
    have := ih (i + 1) (by omega)
    by_cases hb : bat [b0, b1, b2, b3, b4, b5, b6, b7] (i : Int) = true
    · refine Ev.pos hb ?_
      have hp : Go.bits .or .i64 (part [b0, b1, b2, b3, b4, b5, b6, b7] i) (wrap64 (2 ^ min (i : Int).toNat 64)) = part [b0, b1, b2, b3, b4, b5, b6, b7] (i + 1) := part_or b0 b1 b2 b3 b4 b5 b6 b7 ⟨i, by omega⟩ hb
      rw [show rd [x0, x1, x2, x3, x4, x6, x7, part [b0, b1, b2, b3, b4, b5, b6, b7] i, x18] 7 = part [b0, b1, b2, b3, b4, b5, b6, b7] i from rfl, hp]
      exact this
    · refine Ev.neg hb ?_
      rw [part_none _ i (by simpa using hb)] at this
      exact this
def codL (p0 : Int) (p1 : Int) (p2 : Int) (p3 : Int) (p4 : Int) (t : List S89) (p6 : Int) (p7 : Int) (b0 : Bool) (b1 : Bool) (b2 : Bool) (b3 : Bool) (b4 : Bool) (b5 : Bool) (b6 : Bool) (b7 : Bool) (s : List Int) (dd : Int) (p18 : Int) : List Int := [p0, p1, p2, p3, p4, p6, p7, part [b0, b1, b2, b3, b4, b5, b6, b7] 8, p18, (t.length : Int)]
/-- What Coding returns. -/
def CodF (p0 : Int) (p1 : Int) (p2 : Int) (p3 : Int) (p4 : Int) (t : List S89) (p6 : Int) (p7 : Int) (b0 : Bool) (b1 : Bool) (b2 : Bool) (b3 : Bool) (b4 : Bool) (b5 : Bool) (b6 : Bool) (b7 : Bool) (s : List Int) (dd : Int) (p18 : Int) : Int × List Int × Int := if inside 0 255 (codL p0 p1 p2 p3 p4 t p6 p7 b0 b1 b2 b3 b4 b5 b6 b7 s dd p18) = true then CodC t (enc1 (codL p0 p1 p2 p3 p4 t p6 p7 b0 b1 b2 b3 b4 b5 b6 b7 s dd p18)) else (0, [], 2)
theorem coding_ev (p0 : Int) (p1 : Int) (p2 : Int) (p3 : Int) (p4 : Int) (t : List S89) (p6 : Int) (p7 : Int) (b0 : Bool) (b1 : Bool) (b2 : Bool) (b3 : Bool) (b4 : Bool) (b5 : Bool) (b6 : Bool) (b7 : Bool) (s : List Int) (dd : Int) (p18 : Int) (ht : t.length ≤ 1000) : Ev (fun k => headseg_Coding.f k p0 p1 p2 p3 p4 t p6 p7 b0 b1 b2 b3 b4 b5 b6 b7 s dd p18) (CodF p0 p1 p2 p3 p4 t p6 p7 b0 b1 b2 b3 b4 b5 b6 b7 s dd p18) := by
  refine Ev.congr (fun k => headseg_Coding.f.eq_1 ..) ?_
  have w1 := ev_within 0 255 [p0, p1, p2, p3, p4, p6, p7, 0, p18] (by simp)
  have hp := part_le b0 b1 b2 b3 b4 b5 b6 b7
  have e : inside 0 255 (codL p0 p1 p2 p3 p4 t p6 p7 b0 b1 b2 b3 b4 b5 b6 b7 s dd p18) = (inside 0 255 [p0, p1, p2, p3, p4, p6, p7, 0, p18] && decide (t.length ≤ 255)) := by
    simp only [codL, inside, List.all_cons, List.all_nil, Bool.and_true]
    rw [decide_eq_true hp.1, decide_eq_true hp.2]
    simp only [Bool.and_assoc]
    have e1 : decide (0 ≤ (t.length : Int)) = true := decide_eq_true (by omega)
    have e2 : decide ((t.length : Int) ≤ 255) = decide (t.length ≤ 255) := by congr 1; apply propext; omega
    rw [e1, e2]
    simp
  unfold CodF
  rw [e]
  refine Ev.bind w1 ?_
  generalize inside 0 255 [p0, p1, p2, p3, p4, p6, p7, 0, p18] = c
  cases c with
  | false => exact Ev.neg (by simp) (by simpa using Ev.now ((0 : Int), ([] : List Int), (2 : Int)))
  | true =>
    refine Ev.pos rfl ?_
    by_cases h : (t.length : Int) > 255
    · rw [decide_eq_false (by omega)]
      exact Ev.pos h (by simpa using Ev.now ((0 : Int), ([] : List Int), (2 : Int)))
    · rw [decide_eq_true (show t.length ≤ 255 by omega)]
      refine Ev.neg h ?_
      rw [if_pos (by simp)]
      have := hcA_ev t ht b0 b1 b2 b3 b4 b5 b6 b7 p0 p1 p2 p3 p4 p6 p7 p18 8 0 (by omega)
      exact this
theorem CodC_length (t : List S89) (b : List Int) : (CodC t b).2.1.length ≤ b.length + t.length := by
  unfold CodC
  split
  · simp [encP_length]
  · simp
theorem CodF_length (p0 : Int) (p1 : Int) (p2 : Int) (p3 : Int) (p4 : Int) (t : List S89) (p6 : Int) (p7 : Int) (b0 : Bool) (b1 : Bool) (b2 : Bool) (b3 : Bool) (b4 : Bool) (b5 : Bool) (b6 : Bool) (b7 : Bool) (s : List Int) (dd : Int) (p18 : Int) (ht : t.length ≤ 1000) : (CodF p0 p1 p2 p3 p4 t p6 p7 b0 b1 b2 b3 b4 b5 b6 b7 s dd p18).2.1.length ≤ 2000 := by
  unfold CodF
  split
  · have := CodC_length t (enc1 (codL p0 p1 p2 p3 p4 t p6 p7 b0 b1 b2 b3 b4 b5 b6 b7 s dd p18))
    rw [enc1_length] at this
    have h : (codL p0 p1 p2 p3 p4 t p6 p7 b0 b1 b2 b3 b4 b5 b6 b7 s dd p18).length = 10 := rfl
    omega
  · simp
end Go.Proofs.Ytihfopblmjgfaaa.Pure

/- The reference's Coding: what it computes. Printed by wip/tools/genPureCoding.py of this session. -/
namespace Go.Proofs.Ytihfopblmjgfaaa.Pure
open Go.RowKit Go.Proofs.Ytihfopblmjgfaaa.Q Go.Proofs.YtihfopblmjgfaaaW.PrintWords
set_option linter.unusedVariables false
set_option maxRecDepth 100000
theorem flags_all : ∀ b0 b1 b2 b3 b4 b5 b6 b7 : Bool, waveletref29_flags.l0 9 [b0, b1, b2, b3, b4, b5, b6, b7] 0 0 = some (part [b0, b1, b2, b3, b4, b5, b6, b7] 8) := by decide +kernel
theorem flags_up (b0 b1 b2 b3 b4 b5 b6 b7 : Bool) : ∀ k, waveletref29_flags.l0 (k + 9) [b0, b1, b2, b3, b4, b5, b6, b7] 0 0 = some (part [b0, b1, b2, b3, b4, b5, b6, b7] 8)
  | 0 => flags_all b0 b1 b2 b3 b4 b5 b6 b7
  | k + 1 => (waveletref29_flags.mono_l (k + 9)) [b0, b1, b2, b3, b4, b5, b6, b7] 0 0 _ (flags_up b0 b1 b2 b3 b4 b5 b6 b7 k)
theorem rflags_ev (p0 : Int) (p1 : Int) (p2 : Int) (p3 : Int) (p4 : Int) (t : List S89) (p6 : Int) (p7 : Int) (b0 : Bool) (b1 : Bool) (b2 : Bool) (b3 : Bool) (b4 : Bool) (b5 : Bool) (b6 : Bool) (b7 : Bool) (s : List Int) (dd : Int) (p18 : Int) : Ev (fun k => waveletref29_flags.f k p0 p1 p2 p3 p4 t p6 p7 b0 b1 b2 b3 b4 b5 b6 b7 s dd p18) (part [b0, b1, b2, b3, b4, b5, b6, b7] 8) := Ev.plus 9 (flags_up b0 b1 b2 b3 b4 b5 b6 b7)
theorem rcB_ev (t : List S89) (ht : t.length ≤ 1000) (n : Nat) : ∀ (i : Nat) (b : List Int), i + n = t.length → b.length ≤ 1000 + i → Ev (fun k => rcB k t b (i : Int)) (CodC (t.drop i) b) := by
  induction n with
  | zero =>
    intro i b hi hb
    rw [List.drop_eq_nil_of_le (by omega)]
    exact Ev.step (fun k => rcB.eq_2 ..) (Ev.neg (by omega) (by simpa [CodC, precOK, encP] using Ev.now ((65442 : Int), b, (0 : Int))))
  | succ n ih =>
    intro i b hi hb
    have hlt : i < t.length := by omega
    rw [List.drop_eq_getElem_cons hlt, CodC_cons]
    refine Ev.step (fun k => rcB.eq_2 ..) (Ev.pos (by omega) (Ev.pos (by omega) ?_))
    rw [rdP_at i hlt, show wrap64 ((i : Int) + 1) = ((i + 1 : Nat) : Int) by unfold wrap64; omega, rin_eq]
    simp only [Option.bind_some]
    generalize (decide (0 ≤ t[i].f0) && decide (t[i].f0 ≤ 15)) = c1
    cases c1 with
    | false => exact Ev.neg (by simp) (by simpa using Ev.now ((0 : Int), ([] : List Int), (2 : Int)))
    | true =>
    refine Ev.pos rfl ?_
    rw [rin_eq]
    simp only [Option.bind_some]
    generalize (decide (0 ≤ t[i].f1) && decide (t[i].f1 ≤ 15)) = c2
    cases c2 with
    | false => exact Ev.neg (by simp) (by simpa using Ev.now ((0 : Int), ([] : List Int), (2 : Int)))
    | true =>
    rw [if_pos (by simp)]
    refine Ev.pos rfl (Ev.bind (ev_rput b _ 1 (by omega) (by omega)) ?_)
    have := ih (i + 1) (b ++ [wrap64 (t[i].f0 + wrap64 (16 * t[i].f1)) % 256]) (by omega) (by simp; omega)
    simpa [be] using this
theorem rcA_ev (t : List S89) (ht : t.length ≤ 1000) (L : List Int) (hL : L.length ≤ 100) (n : Nat) : ∀ (i : Nat) (b : List Int), i + n = L.length → b.length ≤ i → Ev (fun k => rcA k t L b (i : Int)) (if inside 0 255 (L.drop i) = true then CodC t (b ++ enc1 (L.drop i)) else (0, [], 2)) := by
  induction n with
  | zero =>
    intro i b hi hb
    rw [List.drop_eq_nil_of_le (by omega)]
    refine Ev.step (fun k => rcA.eq_2 ..) (Ev.neg (by omega) ?_)
    have := rcB_ev t ht t.length 0 b (by omega) (by omega)
    simpa [enc1, inside] using this
  | succ n ih =>
    intro i b hi hb
    have hlt : i < L.length := by omega
    refine Ev.step (fun k => rcA.eq_2 ..) (Ev.pos (by omega) (Ev.pos (by omega) ?_))
    rw [rd_at i hlt, show wrap64 ((i : Int) + 1) = ((i + 1 : Nat) : Int) by unfold wrap64; omega, List.drop_eq_getElem_cons hlt, rin_eq]
    simp only [Option.bind_some]
    have e : inside 0 255 (L[i] :: L.drop (i + 1)) = ((decide (0 ≤ L[i]) && decide (L[i] ≤ 255)) && inside 0 255 (L.drop (i + 1))) := by simp only [inside, List.all_cons]
    rw [e]
    generalize (decide (0 ≤ L[i]) && decide (L[i] ≤ 255)) = c
    cases c with
    | false => exact Ev.neg (by simp) (by simpa using Ev.now ((0 : Int), ([] : List Int), (2 : Int)))
    | true =>
    refine Ev.pos rfl (Ev.bind (ev_rput b _ 1 (by omega) (by omega)) ?_)
    have := ih (i + 1) (b ++ [L[i] % 256]) (by omega) (by simp; omega)
    simpa [be, enc1] using this
theorem rcoding_ev (p0 : Int) (p1 : Int) (p2 : Int) (p3 : Int) (p4 : Int) (t : List S89) (p6 : Int) (p7 : Int) (b0 : Bool) (b1 : Bool) (b2 : Bool) (b3 : Bool) (b4 : Bool) (b5 : Bool) (b6 : Bool) (b7 : Bool) (s : List Int) (dd : Int) (p18 : Int) (ht : t.length ≤ 1000) : Ev (fun k => waveletref29_Coding.f k p0 p1 p2 p3 p4 t p6 p7 b0 b1 b2 b3 b4 b5 b6 b7 s dd p18) (CodF p0 p1 p2 p3 p4 t p6 p7 b0 b1 b2 b3 b4 b5 b6 b7 s dd p18) := by
  refine Ev.congr (fun k => waveletref29_Coding.f.eq_1 ..) (Ev.bind (rflags_ev p0 p1 p2 p3 p4 t p6 p7 b0 b1 b2 b3 b4 b5 b6 b7 s dd p18) ?_)
  exact rcA_ev t ht (codL p0 p1 p2 p3 p4 t p6 p7 b0 b1 b2 b3 b4 b5 b6 b7 s dd p18) (by simp [codL]) 10 0 [] rfl (by simp)
end Go.Proofs.Ytihfopblmjgfaaa.Pure

/- ParseCoding: what it computes. Printed by wip/tools/genPureCod.py of this session. -/
namespace Go.Proofs.Ytihfopblmjgfaaa.Pure
open Go.RowKit Go.Proofs.Ytihfopblmjgfaaa.Q Go.Proofs.YtihfopblmjgfaaaW.PrintWords
set_option linter.unusedVariables false
set_option maxRecDepth 100000

def precAt (l : List Int) (p : Nat) : S89 := ⟨l.getD p 0 % 16, l.getD p 0 / 16⟩
def precsAt (l : List Int) : Nat → Nat → List S89
  | _, 0 => []
  | p, n + 1 => precAt l p :: precsAt l (p + 1) n
theorem precsAt_length (l : List Int) : ∀ n p, (precsAt l p n).length = n
  | 0, _ => rfl
  | n + 1, p => by simp [precsAt, precsAt_length l n]
theorem and15 : ∀ b : Fin 256, Go.bits .and .i64 ((b.val : Nat) : Int) 15 = ((b.val % 16 : Nat) : Int) := by decide +kernel
theorem and15' {x : Int} (h0 : 0 ≤ x) (h1 : x ≤ 255) : Go.bits .and .i64 x 15 = x % 16 := by
  have := and15 ⟨x.toNat, by omega⟩
  simp only [] at this
  rw [show ((x.toNat : Nat) : Int) = x by omega] at this
  rw [this]
  omega
theorem codLoop_in {l : List Int} (hb : ∀ x ∈ l, (Lit.int .u8 x).wf = true) (hl : l.length ≤ 1000000) (n : Nat) : ∀ (p : Nat) (xs : List S89), p + n ≤ l.length → xs.length ≤ p → Ev (fun k => codLoop k l (p : Int) (n : Int) xs) (0, xs ++ precsAt l p n, ((p + n : Nat) : Int)) := by
  induction n with
  | zero =>
    intro p xs hp hx
    refine Ev.step (fun k => codLoop.eq_2 ..) (Ev.neg (by omega) ?_)
    simpa [precsAt] using Ev.now ((0 : Int), xs, (p : Int))
  | succ n ih =>
    intro p xs hp hx
    have e2 : wrap64 ((p : Int) + 1) = ((p + 1 : Nat) : Int) := by unfold wrap64; omega
    have e4 : wrap64 (((n + 1 : Nat) : Int) - 1) = (n : Int) := by unfold wrap64; omega
    have r1 := ev_in l hl p 1 (by omega) (by omega) (by omega)
    rw [num_one hb p (by omega)] at r1
    obtain ⟨b0, b1⟩ := wf_u8 (hb _ (List.getElem_mem (show p < l.length by omega)))
    have hc : (⟨Go.bits .and .i64 l[p] 15, l[p] / 16⟩ : S89) = precAt l p := by
      unfold precAt
      rw [getD_at p (by omega), and15' b0 b1]
    have := ih (p + 1) (xs ++ [precAt l p]) (by omega) (by simp; omega)
    refine Ev.step (fun k => codLoop.eq_2 ..) (Ev.pos (by omega) (Ev.pos (by omega) (ev_rdn r1 ?_)))
    rw [e2, e4, hc]
    simpa [precsAt, show p + 1 + n = p + (n + 1) by omega] using this
theorem codLoop_out {l : List Int} (hl : l.length ≤ 1000000) (n : Nat) : ∀ (p : Nat) (xs : List S89), p ≤ l.length → l.length < p + n → xs.length ≤ p → n ≤ 1000000 → Ev (fun k => codLoop k l (p : Int) (n : Int) xs) (7, [], 0) := by
  induction n with
  | zero =>
    intro p xs hp hq hx hn1
    omega
  | succ n ih =>
    intro p xs hp hq hx hn1
    have e2 : wrap64 ((p : Int) + 1) = ((p + 1 : Nat) : Int) := by unfold wrap64; omega
    have e4 : wrap64 (((n + 1 : Nat) : Int) - 1) = (n : Int) := by unfold wrap64; omega
    refine Ev.step (fun k => codLoop.eq_2 ..) (Ev.pos (by omega) (Ev.pos (by omega) ?_))
    rw [e2, e4]
    by_cases c1 : p + 1 ≤ l.length
    rotate_left
    · exact ev_rdn_bad (by omega) (ev_out l hl p 1 (by omega) (by omega) hp (by omega))
    refine ev_rdn (ev_in l hl p 1 (by omega) (by omega) c1) ?_
    exact ih (p + 1) _ c1 (by omega) (by simp; omega) (by omega)
def cntC (l : List Int) : Nat := (l.getD 9 0).toNat
theorem cntC_le {l : List Int} (hb : ∀ x ∈ l, (Lit.int .u8 x).wf = true) (h : 10 ≤ l.length) : cntC l ≤ 255 ∧ l[9] = (cntC l : Int) := by
  obtain ⟨b0, b1⟩ := wf_u8 (hb _ (List.getElem_mem (show 9 < l.length by omega)))
  unfold cntC
  rw [getD_at 9 (by omega)]
  omega
theorem codRead_ev {l : List Int} (hb : ∀ x ∈ l, (Lit.int .u8 x).wf = true) (hl : l.length ≤ 1000000) :
    Ev (fun k => codRead k l) (if 10 ≤ l.length ∧ 10 + cntC l ≤ l.length then ⟨0, l.getD 0 0, l.getD 1 0, l.getD 2 0, l.getD 3 0, l.getD 4 0, l.getD 5 0, l.getD 6 0, l.getD 7 0, l.getD 8 0, precsAt l 10 (cntC l), ((10 + cntC l : Nat) : Int)⟩ else badCod 7) := by
  unfold codRead
  by_cases c0 : 1 ≤ l.length
  rotate_left
  · rw [if_neg (by omega)]; exact ev_rdn_bad (by omega) (ev_out l hl 0 1 (by omega) (by omega) (by omega) (by omega))
  have r0 := ev_in l hl 0 1 (by omega) (by omega) c0
  rw [num_one hb 0 (by omega)] at r0
  refine ev_rdn r0 ?_
  by_cases c1 : 2 ≤ l.length
  rotate_left
  · rw [if_neg (by omega)]; exact ev_rdn_bad (by omega) (ev_out l hl 1 1 (by omega) (by omega) (by omega) (by omega))
  have r1 := ev_in l hl 1 1 (by omega) (by omega) c1
  rw [num_one hb 1 (by omega)] at r1
  refine ev_rdn r1 ?_
  by_cases c2 : 3 ≤ l.length
  rotate_left
  · rw [if_neg (by omega)]; exact ev_rdn_bad (by omega) (ev_out l hl 2 1 (by omega) (by omega) (by omega) (by omega))
  have r2 := ev_in l hl 2 1 (by omega) (by omega) c2
  rw [num_one hb 2 (by omega)] at r2
  refine ev_rdn r2 ?_
  by_cases c3 : 4 ≤ l.length
  rotate_left
  · rw [if_neg (by omega)]; exact ev_rdn_bad (by omega) (ev_out l hl 3 1 (by omega) (by omega) (by omega) (by omega))
  have r3 := ev_in l hl 3 1 (by omega) (by omega) c3
  rw [num_one hb 3 (by omega)] at r3
  refine ev_rdn r3 ?_
  by_cases c4 : 5 ≤ l.length
  rotate_left
  · rw [if_neg (by omega)]; exact ev_rdn_bad (by omega) (ev_out l hl 4 1 (by omega) (by omega) (by omega) (by omega))
  have r4 := ev_in l hl 4 1 (by omega) (by omega) c4
  rw [num_one hb 4 (by omega)] at r4
  refine ev_rdn r4 ?_
  by_cases c5 : 6 ≤ l.length
  rotate_left
  · rw [if_neg (by omega)]; exact ev_rdn_bad (by omega) (ev_out l hl 5 1 (by omega) (by omega) (by omega) (by omega))
  have r5 := ev_in l hl 5 1 (by omega) (by omega) c5
  rw [num_one hb 5 (by omega)] at r5
  refine ev_rdn r5 ?_
  by_cases c6 : 7 ≤ l.length
  rotate_left
  · rw [if_neg (by omega)]; exact ev_rdn_bad (by omega) (ev_out l hl 6 1 (by omega) (by omega) (by omega) (by omega))
  have r6 := ev_in l hl 6 1 (by omega) (by omega) c6
  rw [num_one hb 6 (by omega)] at r6
  refine ev_rdn r6 ?_
  by_cases c7 : 8 ≤ l.length
  rotate_left
  · rw [if_neg (by omega)]; exact ev_rdn_bad (by omega) (ev_out l hl 7 1 (by omega) (by omega) (by omega) (by omega))
  have r7 := ev_in l hl 7 1 (by omega) (by omega) c7
  rw [num_one hb 7 (by omega)] at r7
  refine ev_rdn r7 ?_
  by_cases c8 : 9 ≤ l.length
  rotate_left
  · rw [if_neg (by omega)]; exact ev_rdn_bad (by omega) (ev_out l hl 8 1 (by omega) (by omega) (by omega) (by omega))
  have r8 := ev_in l hl 8 1 (by omega) (by omega) c8
  rw [num_one hb 8 (by omega)] at r8
  refine ev_rdn r8 ?_
  by_cases c9 : 10 ≤ l.length
  rotate_left
  · rw [if_neg (by omega)]; exact ev_rdn_bad (by omega) (ev_out l hl 9 1 (by omega) (by omega) (by omega) (by omega))
  have r9 := ev_in l hl 9 1 (by omega) (by omega) c9
  rw [num_one hb 9 (by omega)] at r9
  obtain ⟨hcn, h12⟩ := cntC_le hb c9
  rw [h12] at r9
  refine ev_rdn r9 ?_
  by_cases c10 : 10 + cntC l ≤ l.length
  · rw [if_pos ⟨c9, c10⟩, getD_at 0 (by omega), getD_at 1 (by omega), getD_at 2 (by omega), getD_at 3 (by omega), getD_at 4 (by omega), getD_at 5 (by omega), getD_at 6 (by omega), getD_at 7 (by omega), getD_at 8 (by omega)]
    have := codLoop_in hb hl (cntC l) 10 [] c10 (by simp)
    exact Ev.bind this (by simpa using Ev.now _)
  · rw [if_neg (by omega)]
    have := codLoop_out hl (cntC l) 10 [] c9 (by omega) (by simp) (by omega)
    exact Ev.bind this (by simpa using Ev.now (badCod 7))
def zeroP (e : Int) : Int × Int × Int × Int × Int × List S89 × Int × Int × Bool × Bool × Bool × Bool × Bool × Bool × Bool × Bool × List Int × Int × Int × Int := (0, 0, 0, 0, 0, [], 0, 0, false, false, false, false, false, false, false, false, [], 0, 0, e)
def PCodF (c : Int) (l : List Int) : Int × Int × Int × Int × Int × List S89 × Int × Int × Bool × Bool × Bool × Bool × Bool × Bool × Bool × Bool × List Int × Int × Int × Int :=
  if c = 65442 then (if 10 ≤ l.length ∧ 10 + cntC l ≤ l.length then (if 10 + cntC l < l.length then zeroP 9 else (l.getD 0 0, l.getD 1 0, l.getD 2 0, l.getD 3 0, l.getD 4 0, precsAt l 10 (cntC l), l.getD 5 0, l.getD 6 0, flag (l.getD 7 0) 0, flag (l.getD 7 0) 1, flag (l.getD 7 0) 2, flag (l.getD 7 0) 3, flag (l.getD 7 0) 4, flag (l.getD 7 0) 5, flag (l.getD 7 0) 6, flag (l.getD 7 0) 7, [], 0, l.getD 8 0, 0)) else zeroP 7) else zeroP 11
theorem pcod_ev {l : List Int} (hb : ∀ x ∈ l, (Lit.int .u8 x).wf = true) (hl : l.length ≤ 1000000) (c : Int) : Ev (fun k => headseg_ParseCoding.f k c l) (PCodF c l) := by
  refine Ev.congr (fun k => headseg_ParseCoding.f.eq_1 ..) (Ev.bind (codRead_ev hb hl) ?_)
  unfold PCodF
  by_cases hc : c = 65442
  · rw [if_pos hc, if_pos hc]
    by_cases h1 : 10 ≤ l.length ∧ 10 + cntC l ≤ l.length
    · rw [if_pos h1, if_pos h1]
      simp only [if_true]
      by_cases h2 : 10 + cntC l < l.length
      · rw [if_pos h2, if_pos (show ((10 + cntC l : Nat) : Int) < (l.length : Int) by omega)]
        exact Ev.now _
      · rw [if_neg h2, if_neg (show ¬ ((10 + cntC l : Nat) : Int) < (l.length : Int) by omega)]
        exact Ev.now _
    · rw [if_neg h1, if_neg h1, if_neg (by simp [badCod])]
      exact Ev.now _
  · rw [if_neg hc, if_neg hc]
    exact Ev.now _
theorem flag0 : ∀ b : Fin 256, (Int.tmod ((b.val : Nat) : Int) 2 == 1) = flag ((b.val : Nat) : Int) 0 := by decide +kernel
theorem flag1 : ∀ b : Fin 256, (Int.tmod (wrap64 (Int.tdiv ((b.val : Nat) : Int) 2)) 2 == 1) = flag ((b.val : Nat) : Int) 1 := by decide +kernel
theorem flag2 : ∀ b : Fin 256, (Int.tmod (wrap64 (Int.tdiv ((b.val : Nat) : Int) 4)) 2 == 1) = flag ((b.val : Nat) : Int) 2 := by decide +kernel
theorem flag3 : ∀ b : Fin 256, (Int.tmod (wrap64 (Int.tdiv ((b.val : Nat) : Int) 8)) 2 == 1) = flag ((b.val : Nat) : Int) 3 := by decide +kernel
theorem flag4 : ∀ b : Fin 256, (Int.tmod (wrap64 (Int.tdiv ((b.val : Nat) : Int) 16)) 2 == 1) = flag ((b.val : Nat) : Int) 4 := by decide +kernel
theorem flag5 : ∀ b : Fin 256, (Int.tmod (wrap64 (Int.tdiv ((b.val : Nat) : Int) 32)) 2 == 1) = flag ((b.val : Nat) : Int) 5 := by decide +kernel
theorem flag6 : ∀ b : Fin 256, (Int.tmod (wrap64 (Int.tdiv ((b.val : Nat) : Int) 64)) 2 == 1) = flag ((b.val : Nat) : Int) 6 := by decide +kernel
theorem flag7 : ∀ b : Fin 256, (wrap64 (Int.tdiv ((b.val : Nat) : Int) 128) == 1) = flag ((b.val : Nat) : Int) 7 := by decide +kernel
theorem byte_of {x : Int} (h0 : 0 ≤ x) (h1 : x ≤ 255) : ∃ b : Fin 256, x = ((b.val : Nat) : Int) := ⟨⟨x.toNat, by omega⟩, by simp only []; omega⟩
theorem rcodLoop_ev {l : List Int} (hb : ∀ x ∈ l, (Lit.int .u8 x).wf = true) (hl : l.length ≤ 1000000) (n0 : Nat) (hlen : l.length = 10 + n0) (n : Nat) : ∀ (i : Nat) (s : List S89), i + n = n0 → s.length ≤ i →
    Ev (fun k => rcodLoop k ((10 + n0 : Nat) : Int) ((10 + i : Nat) : Int) l s) (s ++ precsAt l (10 + i) n) := by
  induction n with
  | zero =>
    intro i s hi hx
    refine Ev.step (fun k => rcodLoop.eq_2 ..) (Ev.neg (by omega) ?_)
    simpa [precsAt] using Ev.now s
  | succ n ih =>
    intro i s hi hx
    have e3 : wrap64 (((10 + i : Nat) : Int) + 1) = ((10 + (i + 1) : Nat) : Int) := by unfold wrap64; omega
    refine Ev.step (fun k => rcodLoop.eq_2 ..) (Ev.pos (by omega) (Ev.pos (by omega) (Ev.pos (by omega) ?_)))
    obtain ⟨q0, b0, b1⟩ := rd_bytes hb (10 + i) (by omega)
    have hc : (⟨Int.tmod (wrap64 l[10 + i]) 16, wrap64 (Int.tdiv (wrap64 l[10 + i]) 16)⟩ : S89) = precAt l (10 + i) := by
      unfold precAt
      rw [getD_at (10 + i) (by omega), show wrap64 l[10 + i] = l[10 + i] by unfold wrap64; omega, Int.tmod_eq_emod_of_nonneg b0, Int.tdiv_eq_ediv_of_nonneg b0, show wrap64 (l[10 + i] / 16) = l[10 + i] / 16 by unfold wrap64; omega]
    rw [e3, q0, hc]
    have := ih (i + 1) (s ++ [precAt l (10 + i)]) (by omega) (by simp; omega)
    simpa [precsAt, show 10 + i + 1 = 10 + (i + 1) by omega] using this
theorem rpcod_ev {l : List Int} (hb : ∀ x ∈ l, (Lit.int .u8 x).wf = true) (hl : l.length ≤ 1000000) (c : Int) : Ev (fun k => waveletref29_ParseCoding.f k c l) (PCodF c l) := by
  refine Ev.congr (fun k => waveletref29_ParseCoding.f.eq_1 ..) ?_
  unfold PCodF
  rw [framed_eq]
  simp only [Option.bind_some]
  by_cases hc : c = 65442
  rotate_left
  · rw [if_neg hc, if_neg hc]
    exact Ev.neg (by omega) (Ev.now _)
  rw [if_pos hc, if_pos hc]
  by_cases h2 : 10 ≤ l.length
  rotate_left
  · rw [if_neg (show ¬ (10 ≤ l.length ∧ 10 + cntC l ≤ l.length) by omega), show rcodN l = 10 from if_neg (by omega), if_pos (show (l.length : Int) < 10 by omega)]
    exact Ev.neg (by omega) (Ev.now _)
  obtain ⟨hcn, h12⟩ := cntC_le hb h2
  have hr12 : rd l 9 = (cntC l : Int) := by
    have := (rd_bytes hb 9 (by omega)).1
    rw [← h12]
    exact this
  have hN : rcodN l = ((10 + cntC l : Nat) : Int) := by
    unfold rcodN
    rw [if_pos (by omega), hr12, show wrap64 (10 + wrap64 (cntC l : Int)) = ((10 + cntC l : Nat) : Int) by unfold wrap64; omega]
  rw [hN]
  by_cases h1 : 10 + cntC l ≤ l.length
  rotate_left
  · rw [if_neg (show ¬ (10 ≤ l.length ∧ 10 + cntC l ≤ l.length) by omega), if_pos (show (l.length : Int) < ((10 + cntC l : Nat) : Int) by omega)]
    exact Ev.neg (by omega) (Ev.now _)
  rw [if_pos (show 10 ≤ l.length ∧ 10 + cntC l ≤ l.length from ⟨h2, h1⟩), if_neg (show ¬ (l.length : Int) < ((10 + cntC l : Nat) : Int) by omega)]
  by_cases h3 : 10 + cntC l < l.length
  · rw [if_pos h3, if_pos (show (l.length : Int) > ((10 + cntC l : Nat) : Int) by omega)]
    exact Ev.neg (by omega) (Ev.now _)
  rw [if_neg h3, if_neg (show ¬ (l.length : Int) > ((10 + cntC l : Nat) : Int) by omega)]
  have e0 : ∀ j : Nat, j < l.length → wrap64 (rd l (j : Int)) = l.getD j 0 := fun j hj => by
    have r0 := rd_bytes hb j hj
    rw [getD_at j hj, r0.1]
    unfold wrap64
    omega
  have e1 : wrap64 (rd l 1) = l.getD 1 0 := e0 1 (by omega)
  have e2 : wrap64 (rd l 2) = l.getD 2 0 := e0 2 (by omega)
  have e3 : wrap64 (rd l 3) = l.getD 3 0 := e0 3 (by omega)
  have e4 : wrap64 (rd l 4) = l.getD 4 0 := e0 4 (by omega)
  have e5 : wrap64 (rd l 5) = l.getD 5 0 := e0 5 (by omega)
  have e6 : wrap64 (rd l 6) = l.getD 6 0 := e0 6 (by omega)
  have e7 : wrap64 (rd l 7) = l.getD 7 0 := e0 7 (by omega)
  have e8 : wrap64 (rd l 8) = l.getD 8 0 := e0 8 (by omega)
  have e00 : wrap64 (rd l 0) = l.getD 0 0 := e0 0 (by omega)
  have r7 := rd_bytes hb 7 (by omega)
  obtain ⟨b, hbv⟩ := byte_of (x := l.getD 7 0) (by rw [getD_at 7 (by omega)]; exact r7.2.1) (by rw [getD_at 7 (by omega)]; exact r7.2.2)
  rw [e00, e1, e2, e3, e4, e5, e6, e7, e8, hbv, flag0 b, flag1 b, flag2 b, flag3 b, flag4 b, flag5 b, flag6 b, flag7 b]
  have := rcodLoop_ev hb hl (cntC l) (by omega) (cntC l) 0 [] (by omega) (by simp)
  exact Ev.pos rfl (Ev.pos h2 (Ev.bind this (by simpa using Ev.now _)))
end Go.Proofs.Ytihfopblmjgfaaa.Pure

/- HeadsegCodings: Coding and ParseCoding return the defined segment, parameters or errors. No condition beside the statement's own. -/
namespace Go.Proofs.Ytihfopblmjgfaaa.Pure
open Go.RowKit Go.Proofs.Ytihfopblmjgfaaa.Q Go.Proofs.YtihfopblmjgfaaaW.PrintWords
set_option linter.unusedVariables false
set_option maxRecDepth 100000
theorem posC {α : Type} {c : Prop} {I : Decidable c} {f g : Nat → Option α} {r : α} (h : c) (k : Ev f r) : Ev (fun n => @ite _ c I (f n) (g n)) r := Ev.pos h k
theorem HeadsegCodings (a0_0 : Int) (a0_1 : Int) (a0_2 : Int) (a0_3 : Int) (a0_4 : Int) (l0_5 : List (S89)) (a0_6 : Int) (a0_7 : Int) (a0_8 : Bool) (a0_9 : Bool) (a0_10 : Bool) (a0_11 : Bool) (a0_12 : Bool) (a0_13 : Bool) (a0_14 : Bool) (a0_15 : Bool) (l0_16 : List (Int)) (a0_17 : Int) (a0_18 : Int) (a1_0 : Int) (l1_1 : List (Int)) (w0_0 : (Lit.int .i64 a0_0).wf = true) (w0_1 : (Lit.int .i64 a0_1).wf = true) (w0_2 : (Lit.int .i64 a0_2).wf = true) (w0_3 : (Lit.int .i64 a0_3).wf = true) (w0_4 : (Lit.int .i64 a0_4).wf = true) (y0_5 : l0_5.length * 16 ≤ 140737488351232) (w0_5 : ∀ x ∈ l0_5, ((Lit.int .i64 x.f0).wf = true ∧ (Lit.int .i64 x.f1).wf = true)) (w0_6 : (Lit.int .i64 a0_6).wf = true) (w0_7 : (Lit.int .i64 a0_7).wf = true) (y0_16 : l0_16.length * 8 ≤ 140737488351232) (w0_16 : ∀ x ∈ l0_16, (Lit.int .i64 x).wf = true) (w0_17 : (Lit.int .i64 a0_17).wf = true) (w0_18 : (Lit.int .i64 a0_18).wf = true) (w1_0 : (Lit.int .i64 a1_0).wf = true) (y1_1 : l1_1.length * 1 ≤ 140737488351232) (w1_1 : ∀ x ∈ l1_1, (Lit.int .u8 x).wf = true) : ∃ k, waveletlaw29_HeadsegCodings.f k a0_0 a0_1 a0_2 a0_3 a0_4 l0_5 a0_6 a0_7 a0_8 a0_9 a0_10 a0_11 a0_12 a0_13 a0_14 a0_15 l0_16 a0_17 a0_18 a1_0 l1_1 = some true := by
  refine Ev.rounds (Ev.congr (fun k => waveletlaw29_HeadsegCodings.f.eq_1 ..) ?_)
  by_cases h2 : (l0_5.length : Int) > 300
  · exact Ev.pos h2 ev_awake
  refine Ev.neg h2 ?_
  simp only [waveletlaw29_long.f, Option.bind_some]
  by_cases h3 : (l1_1.length : Int) > 70000
  · rw [decide_eq_true h3]; exact Ev.pos rfl ev_awake
  rw [decide_eq_false h3]
  have hl : l1_1.length ≤ 1000000 := by omega
  have ht : l0_5.length ≤ 1000 := by omega
  refine Ev.neg (by simp) (Ev.bind (coding_ev _ _ _ _ _ _ _ _ _ _ _ _ _ _ _ _ _ _ _ ht) (Ev.bind (rcoding_ev _ _ _ _ _ _ _ _ _ _ _ _ _ _ _ _ _ _ _ ht) (Ev.bind (pcod_ev w1_1 hl a1_0) (Ev.bind (rpcod_ev w1_1 hl a1_0) (posC ⟨rfl, rfl⟩ ?_)))))
  exact Ev.congr (fun k => waveletlaw29_HeadsegCodings.g.eq_1 ..) (Ev.bind (ev_sameSegment _ _ (by have := CodF_length a0_0 a0_1 a0_2 a0_3 a0_4 l0_5 a0_6 a0_7 a0_8 a0_9 a0_10 a0_11 a0_12 a0_13 a0_14 a0_15 l0_16 a0_17 a0_18 ht; omega)) (Ev.pos rfl ev_awake))
end Go.Proofs.Ytihfopblmjgfaaa.Pure

/- How an argument of a law is opened as a value of a printed kind, for any type that is built of integers, bools, strings, slices and structs: 'Opens P t d ok' says that what reads as data of type t holds the cells of some v of kind d, with ok v. -/
namespace Go.Proofs.Ytihfopblmjgfaaa.Open
open Go.RowKit Go.Proofs.YtihfopblmjgfaaaW.PrintWords

def Light {H : Type} (P : Program) (t : TypeId) (d : DataW H) : Prop := ∀ n ∈ d.weights P t, n ≤ 140737488351232

structure Opens {α : Type} (P : Program) (t : TypeId) (d : Kd α) (ok : α → Prop) : Prop where
  size : P.cellsOf t = d.sz
  opens : ∀ {H : Type} {enc : TypeId × Value → H} {w : World} {base : Nat} {spare : Nat → Bool} {held : Bool} {fuel : Nat} {cs : List Value} {x : DataW H × List MemPlace},
    DataW.trod enc P w base spare held fuel t cs = some x → Light P t x.1 → ∃ v, d.K w v cs ∧ ok v

theorem opens_int {P : Program} {t : TypeId} {k : IntKind} (ht : P.underlying t = some (.int k)) (hc : P.cellsOf t = 1) : Opens P t (Kd.int k) (fun n => (Lit.int k n).wf = true) :=
  ⟨hc, fun h _ => by
    obtain ⟨n, rfl, _, hw⟩ := DataW.trod_int ht h
    exact ⟨n, rfl, hw⟩⟩
theorem opens_bool {P : Program} {t : TypeId} (ht : P.underlying t = some .bool) (hc : P.cellsOf t = 1) : Opens P t Kd.bool (fun _ => True) :=
  ⟨hc, fun h _ => by
    obtain ⟨b, rfl, _⟩ := DataW.trod_bool ht h
    exact ⟨b, rfl, trivial⟩⟩
theorem list_of_lt {α : Type} {p : Nat → α → Prop} : ∀ (n : Nat), (∀ i, i < n → ∃ v, p i v) → ∃ l : List α, l.length = n ∧ ∀ i v, l[i]? = some v → p i v
  | 0, _ => ⟨[], rfl, fun i v h => by simp at h⟩
  | n + 1, h => by
    obtain ⟨l, hl, hp⟩ := list_of_lt n (fun i hi => h i (by omega))
    obtain ⟨v, hv⟩ := h n (by omega)
    refine ⟨l ++ [v], by simp [hl], fun i u hu => ?_⟩
    rcases Nat.lt_or_ge i n with hi | hi
    · rw [List.getElem?_append_left (by omega)] at hu
      exact hp i u hu
    · rw [List.getElem?_append_right (by omega), hl] at hu
      have hi0 : i - n = 0 := by
        rcases Nat.eq_zero_or_pos (i - n) with h0 | h0
        · exact h0
        · rw [List.getElem?_eq_none (by simp; omega)] at hu
          cases hu
      rw [hi0] at hu
      have : i = n := by omega
      subst this
      have e : v = u := by simpa using hu
      subst e
      exact hv

theorem weightsAll_mem {H : Type} {P : Program} {e : TypeId} : ∀ {ds : List (DataW H)} {j : Nat} {d : DataW H}, ds[j]? = some d → ∀ n ∈ d.weights P e, n ∈ DataW.weightsAll P e ds
  | d0 :: ds, 0, d, hd, n, hn => by
    simp only [List.getElem?_cons_zero, Option.some.injEq] at hd
    subst hd
    simp only [DataW.weightsAll, List.mem_append]
    exact Or.inl hn
  | d0 :: ds, j + 1, d, hd, n, hn => by
    simp only [List.getElem?_cons_succ] at hd
    simp only [DataW.weightsAll, List.mem_append]
    exact Or.inr (weightsAll_mem hd n hn)
  | [], _, _, hd, _, _ => by simp at hd

theorem opens_slice {α : Type} {P : Program} {t e : TypeId} {d : Kd α} {ok : α → Prop} {B : Nat} (ht : P.underlying t = some (.slice e)) (hc : P.cellsOf t = 1) (hB : P.bytesOf e = B) (he : Opens P e d ok) :
    Opens P t (Kd.slice e d) (fun l => l.length * B ≤ 140737488351232 ∧ ∀ x ∈ l, ok x) :=
  ⟨hc, by
    intro H enc w base spare held fuel cs x h hl
    rcases DataW.trod_slice ht h with ⟨rfl, rfl⟩ | ⟨a, len, cap, elems, rest, n, _, rfl, rfl, hb, hlc, hm, hlen, hel, _, _⟩
    · exact ⟨[], ⟨none, 0, rfl, Nat.le_refl _, rfl, by simp, fun h0 => by simp at h0⟩, by simp, by simp⟩
    · have key : ∀ i, i < len → ∃ v : α, (∃ cs', w.cells? base (a.add (i * P.cellsOf e)) (P.cellsOf e) = some cs' ∧ d.K w v cs') ∧ ok v := by
        intro i hi
        have h1 := hel i hi
        rw [List.getElem?_eq_getElem (by omega)] at h1
        obtain ⟨cs', h2, h3⟩ := Option.bind_eq_some_iff.1 h1
        obtain ⟨v, hv, ho⟩ := he.opens h3 (fun m hm2 => hl m (by
          simp only [DataW.weights, ht, List.mem_cons, List.mem_append]
          exact Or.inr (Or.inl (weightsAll_mem (j := i) (by simp [List.getElem?_eq_getElem (show i < elems.length by omega)]) m hm2))))
        exact ⟨v, ⟨cs', h2, hv⟩, ho⟩
      obtain ⟨l, hll, hp⟩ := list_of_lt len key
      have hw := hl _ (by
        simp only [DataW.weights, ht]
        exact List.mem_cons_self)
      rw [hB] at hw
      refine ⟨l, ⟨some a, cap, by rw [hll], by omega, rfl, by unfold maxLen at hm; omega, fun _ => ⟨a, rfl, ?_⟩⟩, ?_, ?_⟩
      · intro j p hj
        obtain ⟨⟨cs', h2, hv⟩, _⟩ := hp j p hj
        obtain ⟨_, h4, h5⟩ := World.cells?_some h2
        refine ⟨cs', d.K_len hv, hv, fun i u hu => ?_⟩
        have hi : i < P.cellsOf e := by
          rw [← h4]
          exact (List.getElem?_eq_some_iff.1 hu).1
        rw [← hu, ← h5 i hi, he.size]
        congr 1
        simp only [Addr.add]
        split <;> split <;> split <;> first | rfl | omega | (simp; omega) | simp_all
      · have h6 : len ≤ (elems.map (·.1)).length + (rest.map (·.1)).length := by simp; omega
        rw [hll]
        exact Nat.le_trans (Nat.mul_le_mul_right B h6) hw
      · intro x hx
        obtain ⟨j, hj⟩ := List.mem_iff_getElem?.1 hx
        exact (hp j x hj).2⟩

def Parts {α : Type} (P : Program) (fs : List Field) (off total : Nat) (d : Kd α) (ok : α → Prop) : Prop :=
  ∀ {H : Type} {enc : TypeId × Value → H} {w : World} {base : Nat} {spare : Nat → Bool} {held : Bool} {n : Nat} {cs : List Value} (xs : List (DataW H × List MemPlace)), cs.length = total → xs.length = fs.length →
    (∀ (i : Nat) (f : Field), fs[i]? = some f → DataW.trod enc P w base spare held n f.type ((cs.drop f.offset).take (P.cellsOf f.type)) = xs[i]?) →
    (∀ (i : Nat) (f : Field) y, fs[i]? = some f → xs[i]? = some y → Light P f.type y.1) → ∃ v, d.K w v (cs.drop off) ∧ ok v

theorem parts_one {α : Type} {P : Program} {f : Field} {off total : Nat} {d : Kd α} {ok : α → Prop} (he : Opens P f.type d ok) (ho : f.offset = off) (hs : off + d.sz = total) : Parts P [f] off total d ok := by
  intro H enc w base spare held n cs xs hl hx h hw
  match xs, hx with
  | [y], _ =>
    have h0 := h 0 f rfl
    obtain ⟨v, hv, hk⟩ := he.opens h0 (hw 0 f y rfl rfl)
    refine ⟨v, ?_, hk⟩
    rw [ho, List.take_of_length_le (by rw [List.length_drop, he.size]; omega)] at hv
    exact hv
theorem parts_cons {α β : Type} {P : Program} {f : Field} {fs : List Field} {off total : Nat} {d : Kd α} {d2 : Kd β} {ok : α → Prop} {ok2 : β → Prop} (he : Opens P f.type d ok) (ho : f.offset = off) (h2 : Parts P fs (off + d.sz) total d2 ok2) :
    Parts P (f :: fs) off total (Kd.pair d d2) (fun p => ok p.1 ∧ ok2 p.2) := by
  intro H enc w base spare held n cs xs hl hx h hw
  match xs, hx with
  | y :: ys, hy =>
    have h0 := h 0 f rfl
    obtain ⟨v, hv, hk⟩ := he.opens h0 (hw 0 f y rfl rfl)
    obtain ⟨u, hu, hk2⟩ := h2 ys hl (by simpa using hy) (fun i g hg => h (i + 1) g (by simpa using hg)) (fun i g z hg hz => hw (i + 1) g z (by simpa using hg) (by simpa using hz))
    refine ⟨(v, u), ⟨_, _, ?_, hv, hu⟩, hk, hk2⟩
    rw [ho, he.size, ← List.drop_drop]
    exact (List.take_append_drop d.sz (cs.drop off)).symm
theorem opens_struct {α β : Type} {P : Program} {t : TypeId} {fs : Array Field} {d : Kd α} {ok : α → Prop} (ht : P.underlying t = some (.struct fs)) (hc : P.cellsOf t = d.sz) (h2 : Parts P fs.toList 0 (P.cellsOf t) d ok) (f : β → α) (g : α → β) (hfg : ∀ v, f (g v) = v) :
    Opens P t (Kd.iso d f) (fun x => ok (f x)) :=
  ⟨hc, by
    intro H enc w base spare held fuel cs x h hl
    obtain ⟨xs, n, _, rfl, hcl, hxl, hf⟩ := DataW.trod_struct ht h
    obtain ⟨v, hv, hk⟩ := h2 (cs := cs) xs hcl (by simpa using hxl) (fun i fd hi => hf i fd (by simpa using hi)) (fun i fd y hi hy m hm => hl m (by
      simp only [DataW.weights, ht]
      exact DataW.weights_mem_each (j := i) (by rw [List.getElem?_map, hi]; rfl) (by rw [List.getElem?_map, hy]; rfl) m hm))
    refine ⟨g v, ?_, ?_⟩
    · show d.K w (f (g v)) cs
      rw [hfg]
      simpa using hv
    · show ok (f (g v))
      rw [hfg]
      exact hk⟩

theorem light_of {H : Type} {P : Program} {ts : List TypeId} {ds : List (DataW H)} (hsz : (DataW.weightsEach P ts ds).all (· ≤ reachBytes) = true) {j : Nat} {t : TypeId} {d : DataW H} (ht : ts[j]? = some t) (hd : ds[j]? = some d) : Light P t d := by
  intro n hn
  have h1 := List.all_eq_true.1 hsz n (DataW.weights_mem_each ht hd n hn)
  have h2 : n ≤ reachBytes := by simpa using h1
  exact Nat.le_trans h2 (by decide)
end Go.Proofs.Ytihfopblmjgfaaa.Open

/- The row of HeadsegCodings, out of its pure law (Pure.HeadsegCodings) and the contract of the function; no condition. Written by wip/tools/lawrow.py of this session. -/
namespace Go.Proofs.Ytihfopblmjgfaaa.headsegCodings
open Go.ChangeShapes Go.WideShapes Go.ChangeAt Go.RowKit Go.Proofs.Ytihfopblmjgfaaa.Q Go.Proofs.YtihfopblmjgfaaaW.PrintWords Go.Proofs.Ytihfopblmjgfaaa.Open
open Go.ChangeMaps (open_string shut_string)
set_option linter.unusedVariables false
theorem own : ownKnob Try.prog.godebug = none := by kernel_rfl
theorem laidOut : laidOutB Try.prog = true := by kernel_rfl
set_option maxRecDepth 100000 in
theorem o89 : Opens Try.prog 89 k89 (fun x => ((Lit.int .i64 x.f0).wf = true ∧ (Lit.int .i64 x.f1).wf = true)) := by
  have h := opens_struct (β := S89) Try.underlying89 (by kernel_rfl) (parts_cons (opens_int Try.underlying3 (by kernel_rfl)) rfl (parts_one (opens_int Try.underlying3 (by kernel_rfl)) rfl (by kernel_rfl))) (fun x => (x.f0, x.f1)) (fun v => ⟨v.1, v.2⟩) (fun _ => rfl)
  exact h
set_option maxRecDepth 100000 in
theorem lifted (os : Os) (started : os.Started) (H : Type) (enc : TypeId × Value → H) :
    ReturnsInHanded {} Try.checked os 7 .any (Rows.headsegCodingsSpec.pre6 enc Try.prog Try.f7 Rows.headsegCodingsRow.domain false) (Rows.headsegCodingsSpec.post enc Try.prog Try.f7 false true false false) := by
  refine returnsInHanded_of_change_sized (C := Try.checked) own started (by kernel_rfl) Try.func7
    (ChangeSpec.witness6 (enc := enc) (C := Try.checked) false ⟨#[], #[.agg #[.int .i64 0, .int .i64 0, .int .i64 0, .int .i64 0, .int .i64 0, .slice none 0 0, .int .i64 0, .int .i64 0, .bool false, .bool false, .bool false, .bool false, .bool false, .bool false, .bool false, .bool false, .slice none 0 0, .int .i64 0, .int .i64 0], .agg #[.int .i64 0, .slice none 0 0]], []⟩ 8 (by kernel_rfl) (by kernel_rfl) (by kernel_rfl) (by kernel_rfl)) ?_
  intro W base args ds gs before hval0 hW hcnd hsz0 _
  have hsz : (DataW.weightsEach Try.prog (Try.f7.params.toList ++ Rows.headsegCodingsSpec.plain.varTypes Try.prog) (ds ++ gs)).all (· ≤ reachBytes) = true := hsz0
  have hval : ∀ (j : Nat) t v, Try.f7.params[j]? = some t → args[j]? = some v → Value.okWide Try.prog W .any base t v := hval0
  have hW' := hW
  obtain ⟨p, q, hA0, hV, rfl, hfz, hnd⟩ := hW
  have hA : DataW.TrodAll enc Try.prog W 0 (fun _ => true) true Try.f7.params.toList args.toList ds p := hA0
  rw [Try.params7] at hA hval hsz
  obtain ⟨v0, vs0, d0, ds0, p0, q0, hargs, rfl, rfl, h0, r0⟩ := trodAll_cons hA
  obtain ⟨v1, vs1, d1, ds1, p1, q1, rfl, rfl, rfl, h1, r1⟩ := trodAll_cons r0
  obtain ⟨rfl, rfl, rfl⟩ := trodAll_nil r1
  obtain rfl : args = #[v0, v1] := by cases args; simp_all
  obtain ⟨rfl, rfl⟩ := trodVars_none hV
  have k0 := h0
  have lt0 : ∀ x ∈ p0, x.block < W.heap.size := by obtain ⟨m, hm⟩ := k0; exact DataW.trod_lt m _ _ _ hm
  have li0 := light_of hsz (j := 0) (t := 55) rfl rfl
  obtain ⟨fu0, hf0⟩ := h0
  obtain ⟨v0_, hK0, hok0⟩ := (opens_struct Try.underlying55 (by kernel_rfl) (parts_cons (opens_int Try.underlying48 (by kernel_rfl)) rfl (parts_cons (opens_int Try.underlying3 (by kernel_rfl)) rfl (parts_cons (opens_int Try.underlying49 (by kernel_rfl)) rfl (parts_cons (opens_int Try.underlying3 (by kernel_rfl)) rfl (parts_cons (opens_int Try.underlying3 (by kernel_rfl)) rfl (parts_cons (opens_slice (B := 16) Try.underlying50 (by kernel_rfl) (by kernel_rfl) o89) rfl (parts_cons (opens_int Try.underlying51 (by kernel_rfl)) rfl (parts_cons (opens_int Try.underlying3 (by kernel_rfl)) rfl (parts_cons (opens_struct Try.underlying53 (by kernel_rfl) (parts_cons (opens_bool Try.underlying4 (by kernel_rfl)) rfl (parts_cons (opens_bool Try.underlying4 (by kernel_rfl)) rfl (parts_cons (opens_bool Try.underlying4 (by kernel_rfl)) rfl (parts_cons (opens_bool Try.underlying4 (by kernel_rfl)) rfl (parts_one (opens_bool Try.underlying4 (by kernel_rfl)) rfl (by kernel_rfl)))))) (fun v => v) (fun v => v) (fun _ => rfl)) rfl (parts_cons (opens_bool Try.underlying4 (by kernel_rfl)) rfl (parts_cons (opens_bool Try.underlying4 (by kernel_rfl)) rfl (parts_cons (opens_bool Try.underlying4 (by kernel_rfl)) rfl (parts_cons (opens_slice (B := 8) Try.underlying39 (by kernel_rfl) (by kernel_rfl) (opens_int Try.underlying3 (by kernel_rfl))) rfl (parts_cons (opens_int Try.underlying3 (by kernel_rfl)) rfl (parts_one (opens_int Try.underlying3 (by kernel_rfl)) rfl (by kernel_rfl)))))))))))))))) (fun v => v) (fun v => v) (fun _ => rfl)).opens hf0 li0
  obtain ⟨cs0, rfl, _⟩ := okWide_struct Try.underlying55 (hval 0 55 v0 rfl rfl)
  obtain ⟨_, _, hcs0, rfl, ⟨_, _, rfl, rfl, ⟨_, _, rfl, rfl, ⟨_, _, rfl, rfl, ⟨_, _, rfl, rfl, ⟨_, _, rfl, ⟨A0_5, c0_5, rfl, hl0_5, hC0_5⟩, ⟨_, _, rfl, rfl, ⟨_, _, rfl, rfl, ⟨_, _, rfl, ⟨_, _, rfl, rfl, ⟨_, _, rfl, rfl, ⟨_, _, rfl, rfl, ⟨_, _, rfl, rfl, rfl⟩⟩⟩⟩, ⟨_, _, rfl, rfl, ⟨_, _, rfl, rfl, ⟨_, _, rfl, rfl, ⟨_, _, rfl, ⟨A0_16, c0_16, rfl, hl0_16, hC0_16⟩, ⟨_, _, rfl, rfl, rfl⟩⟩⟩⟩⟩⟩⟩⟩⟩⟩⟩⟩⟩⟩ := hK0
  obtain rfl : cs0 = #[.int .i64 v0_.1, .int .i64 v0_.2.1, .int .i64 v0_.2.2.1, .int .i64 v0_.2.2.2.1, .int .i64 v0_.2.2.2.2.1, .slice A0_5 v0_.2.2.2.2.2.1.length c0_5, .int .i64 v0_.2.2.2.2.2.2.1, .int .i64 v0_.2.2.2.2.2.2.2.1, .bool v0_.2.2.2.2.2.2.2.2.1.1, .bool v0_.2.2.2.2.2.2.2.2.1.2.1, .bool v0_.2.2.2.2.2.2.2.2.1.2.2.1, .bool v0_.2.2.2.2.2.2.2.2.1.2.2.2.1, .bool v0_.2.2.2.2.2.2.2.2.1.2.2.2.2, .bool v0_.2.2.2.2.2.2.2.2.2.1, .bool v0_.2.2.2.2.2.2.2.2.2.2.1, .bool v0_.2.2.2.2.2.2.2.2.2.2.2.1, .slice A0_16 v0_.2.2.2.2.2.2.2.2.2.2.2.2.1.length c0_16, .int .i64 v0_.2.2.2.2.2.2.2.2.2.2.2.2.2.1, .int .i64 v0_.2.2.2.2.2.2.2.2.2.2.2.2.2.2] := by cases cs0; simpa [Value.cells] using hcs0
  clear hcs0
  obtain ⟨w0_0, w0_1, w0_2, w0_3, w0_4, ⟨y0_5, w0_5⟩, w0_6, w0_7, ⟨_, _, _, _, _⟩, _, _, _, ⟨y0_16, w0_16⟩, w0_17, w0_18⟩ := hok0
  have k1 := h1
  have lt1 : ∀ x ∈ p1, x.block < W.heap.size := by obtain ⟨m, hm⟩ := k1; exact DataW.trod_lt m _ _ _ hm
  have li1 := light_of hsz (j := 1) (t := 26) rfl rfl
  obtain ⟨fu1, hf1⟩ := h1
  obtain ⟨v1_, hK1, hok1⟩ := (opens_struct Try.underlying26 (by kernel_rfl) (parts_cons (opens_int Try.underlying3 (by kernel_rfl)) rfl (parts_one (opens_slice (B := 1) Try.underlying24 (by kernel_rfl) (by kernel_rfl) (opens_int Try.underlying5 (by kernel_rfl))) rfl (by kernel_rfl))) (fun v => v) (fun v => v) (fun _ => rfl)).opens hf1 li1
  obtain ⟨cs1, rfl, _⟩ := okWide_struct Try.underlying26 (hval 1 26 v1 rfl rfl)
  obtain ⟨_, _, hcs1, rfl, ⟨A1_1, c1_1, rfl, hl1_1, hC1_1⟩⟩ := hK1
  obtain rfl : cs1 = #[.int .i64 v1_.1, .slice A1_1 v1_.2.length c1_1] := by cases cs1; simpa [Value.cells] using hcs1
  clear hcs1
  obtain ⟨w1_0, ⟨y1_1, w1_1⟩⟩ := hok1
  clear hA0 hval0 hsz0 hsz
  obtain ⟨k, hp⟩ := Pure.HeadsegCodings (v0_.1) (v0_.2.1) (v0_.2.2.1) (v0_.2.2.2.1) (v0_.2.2.2.2.1) (v0_.2.2.2.2.2.1) (v0_.2.2.2.2.2.2.1) (v0_.2.2.2.2.2.2.2.1) (v0_.2.2.2.2.2.2.2.2.1.1) (v0_.2.2.2.2.2.2.2.2.1.2.1) (v0_.2.2.2.2.2.2.2.2.1.2.2.1) (v0_.2.2.2.2.2.2.2.2.1.2.2.2.1) (v0_.2.2.2.2.2.2.2.2.1.2.2.2.2) (v0_.2.2.2.2.2.2.2.2.2.1) (v0_.2.2.2.2.2.2.2.2.2.2.1) (v0_.2.2.2.2.2.2.2.2.2.2.2.1) (v0_.2.2.2.2.2.2.2.2.2.2.2.2.1) (v0_.2.2.2.2.2.2.2.2.2.2.2.2.2.1) (v0_.2.2.2.2.2.2.2.2.2.2.2.2.2.2) (v1_.1) (v1_.2) w0_0 w0_1 w0_2 w0_3 w0_4 y0_5 w0_5 w0_6 w0_7 y0_16 w0_16 w0_17 w0_18 w1_0 y1_1 w1_1
  refine (waveletlaw29_HeadsegCodings.calls k (v0_.1) (v0_.2.1) (v0_.2.2.1) (v0_.2.2.2.1) (v0_.2.2.2.2.1) _ _ (v0_.2.2.2.2.2.1) (v0_.2.2.2.2.2.2.1) (v0_.2.2.2.2.2.2.2.1) (v0_.2.2.2.2.2.2.2.2.1.1) (v0_.2.2.2.2.2.2.2.2.1.2.1) (v0_.2.2.2.2.2.2.2.2.1.2.2.1) (v0_.2.2.2.2.2.2.2.2.1.2.2.2.1) (v0_.2.2.2.2.2.2.2.2.1.2.2.2.2) (v0_.2.2.2.2.2.2.2.2.2.1) (v0_.2.2.2.2.2.2.2.2.2.2.1) (v0_.2.2.2.2.2.2.2.2.2.2.2.1) _ _ (v0_.2.2.2.2.2.2.2.2.2.2.2.2.1) (v0_.2.2.2.2.2.2.2.2.2.2.2.2.2.1) (v0_.2.2.2.2.2.2.2.2.2.2.2.2.2.2) (v1_.1) _ _ (v1_.2) true rfl W hC0_5 hl0_5 hC0_16 hl0_16 hC1_1 hl1_1 hp).mono fun e W' he_ => ?_
  obtain ⟨he, bel⟩ := he_
  subst he
  exact ⟨_, rfl, _, _, _, [], _, [], hW', trodAll_mk1 (shut_bool Try.underlying4 _), (trodAll_cons_mk (Below.trod laidOut (by kernel_rfl) (of_decide_eq_true (by kernel_rfl)) k0 bel lt0) (trodAll_cons_mk (Below.trod laidOut (by kernel_rfl) (of_decide_eq_true (by kernel_rfl)) k1 bel lt1) trodAll_mk0)), rfl, bel.frame _, fun h => by cases h⟩
theorem over : Rows.headsegCodingsRow.holds Try.pinned (OpenSpec.ofChange Rows.headsegCodingsSpec) :=
  OpenClaim.holds_of_wide 7 Try.f7 rfl rfl rfl rfl rfl rfl rfl ⟨rfl, rfl, rfl, rfl, rfl⟩ rfl rfl rfl rfl rfl (by kernel_rfl) Try.func7 (by kernel_rfl)
    (of_decide_eq_true (by kernel_rfl)) (by unfold Func.isWrapper; first | (rw [if_pos (by decide +kernel)]; kernel_rfl) | (rw [if_neg (by decide +kernel)]; exact ⟨rfl, rfl⟩))
    (fun os started H enc _ => lifted os started H enc)
theorem proved : Rows.HeadsegCodingsSaid := over
end Go.Proofs.Ytihfopblmjgfaaa.headsegCodings
namespace Go.Proofs.Ytihfopblmjgfaaa
/-- The row, under a short name, for the claim. -/
theorem headsegCodings_holds : Rows.HeadsegCodingsSaid := headsegCodings.proved
#print axioms headsegCodings_holds
end Go.Proofs.Ytihfopblmjgfaaa
