/- Texts of this session (words and printed walks, merged by wip/tools/merge.py) for the statement of the claim. -/
import Derived.Test.YtihfopblmjgfaaaMRest1
import Derived.Test.YtihfopblmjgfaaaMRest8
import Derived.Test.YtihfopblmjgfaaaMRest5
import Derived.Test.YtihfopblmjgfaaaMRest6
import Derived.Test.YtihfopblmjgfaaaMRest2
import Derived.Test.YtihfopblmjgfaaaMRest4
import Derived.Test.YtihfopblmjgfaaaMRest7
import Derived.Test.YtihfopblmjgfaaaMRest0
import Derived.ChangeArms
import Derived.SizedLaws
/- Printed walk, shortened (wip/tools/unmerge.py). -/
namespace Go.Proofs.Ytihfopblmjgfaaa.Q
open Go.RowKit Go.Proofs.YtihfopblmjgfaaaW.PrintWords Go.Proofs.YtihfopblmjgfaaaW.PrintLast Go.Proofs.YtihfopblmjgfaaaW.PrintMore
attribute [local go_sem] max2_int min2_int max_two min_two max_three min_three max_four min_four   -- for this text's walks alone
set_option linter.unusedVariables false
set_option linter.unusedSimpArgs false

/-! ### waveletref29_put: function 46 -/
def waveletref29_put.l0 : Nat → List Int → Int → Int → Option (List Int)
  | 0, _, _, _ => none
  | k + 1, x0, x1, x7 => if x7 ≥ 0 then (if 0 ≤ (wrap64 (8 * x7)) then (if x0.length < 140737488355328 then (waveletref29_put.l0 k (x0 ++ [(shr .i64 x1 (wrap64 (8 * x7))) % 256]) x1 (wrap64 (x7 - 1))) else (none)) else (none)) else (some x0)
def waveletref29_put.f (k : Nat) (l0 : List Int) (a1 : Int) (a2 : Int) : Option (List Int) := waveletref29_put.l0 k l0 a1 (wrap64 (a2 - 1))
theorem waveletref29_put.mono_l : ∀ k, (∀ y0 y1 y2, LeO (waveletref29_put.l0 k y0 y1 y2) (waveletref29_put.l0 (k + 1) y0 y1 y2))
  | 0 => fun _ _ _ r h => by simp [waveletref29_put.l0] at h
  | k + 1 => by
    have ih0 := waveletref29_put.mono_l k
    · intro y0 y1 y2
      unfold waveletref29_put.l0
      repeat' first
      | (with_reducible exact ih0 _ _ _)
      | (with_reducible exact LeO.refl _)
      | (with_reducible exact LeO.none _)
      | (with_reducible refine LeO.ite ?_ ?_)
      | (with_reducible refine LeO.bind ?_ (fun _ => ?_))
      | exact ih0 _ _ _
      | exact LeO.none _
      | refine LeO.ite ?_ ?_
      | refine LeO.bind ?_ (fun _ => ?_)
theorem waveletref29_put.mono : ∀ a0 a1 a2 k, LeO (waveletref29_put.f k a0 a1 a2) (waveletref29_put.f (k + 1) a0 a1 a2) := by
  intro a0 a1 a2 k
  have ih0 := waveletref29_put.mono_l k
  unfold waveletref29_put.f
  repeat' first
      | (with_reducible exact ih0 _ _ _)
      | (with_reducible exact LeO.refl _)
      | (with_reducible exact LeO.none _)
      | (with_reducible refine LeO.ite ?_ ?_)
      | (with_reducible refine LeO.bind ?_ (fun _ => ?_))
      | exact ih0 _ _ _
      | exact LeO.none _
      | refine LeO.ite ?_ ?_
      | refine LeO.bind ?_ (fun _ => ?_)
set_option maxHeartbeats 8000000 in
set_option maxRecDepth 100000 in
theorem waveletref29_put.calls (k : Nat) (P0_ : Nat → Prop) (u9000_ : Value) (l0 : List Int) (a1 : Int) (a2 : Int) (r : List Int) (w0 w : World) (hB : Below w0.heap.size w0 w) (ho0 : Kd.R (Kd.int .u8) 5 w w0.heap.size P0_ u9000_ l0) (h : waveletref29_put.f k l0 a1 a2 = some r) :
    Calls Try.prog 46 #[u9000_, .int .i64 a1, .int .i64 a2] w fun e w' => ∃ v0_ : Value, e = .returned (v0_) ∧ Kd.R (Kd.int .u8) 5 w' w0.heap.size (fun k_ => (P0_ k_ ∨ w.heap.size ≤ k_)) v0_ r ∧ Below w0.heap.size w0 w' ∧ Kept w w' (fun k_ => P0_ k_) := by
  have HO0 := Aside0.mk (show Kd.R (Kd.int .u8) 5 w w0.heap.size (fun k_ => (P0_ k_ ∨ w.heap.size ≤ k_)) u9000_ l0 from Kd.R_mono ho0 (fun k_ hk => (.inl hk)))
  have HK := Aside0.mk (Kept.refl w (fun k_ => P0_ k_))
  have HW0 := Aside0.mk hB.size
  have HB := Aside0.mk hB
  clear hB
  have H : (waveletref29_put.l0 k l0 a1 (wrap64 (a2 - 1))) = some r := h
  clear h
  have H' := Aside0.mk H
  clear H
  go_enter Try.func46, Try.ntmps46
  go_wp2
  go_loopg [0, 7] k (fun kq v0 v7 w' => ∃ (x0_1 : List Int) (x7_1 : Int), v7 = .int .i64 x7_1 ∧ Aside0 (waveletref29_put.l0 kq x0_1 a1 x7_1 = some r) ∧ Aside0 (kq ≤ k) ∧ Aside0 (Kd.R (Kd.int .u8) 5 w' w0.heap.size (fun k_ => (P0_ k_ ∨ w.heap.size ≤ k_)) v0 x0_1) ∧ Aside0 (Kept w w' (fun k_ => P0_ k_)) ∧ Aside0 (Below w0.heap.size w0 w'))
  case atStart => exact ⟨(l0), (wrap64 (a2 - 1)), (by first | rfl | (simp; done) | (simp [*]; done)), H', ⟨Nat.le_refl _⟩, ⟨by (with_reducible repeat (first | apply Kd.R_alloc | apply Kd.R_drewN | apply Kd.R_drew)); exact HO0.out⟩, ⟨by repeat (first | (with_reducible first | exact HK.out | apply Kept.alloc | apply Kept.drewN | apply Kept.drew) | exact HK.out)⟩, ⟨by repeat (first | (with_reducible first | exact HB.out | apply below_alloc | apply pw_below_drewN | apply below_drew1) | exact HB.out)⟩⟩
  case round =>
    clear H'
    try clear p2
    obtain ⟨x0_1, x7_1, rfl, HA, HK1, HO_0, HK, HB⟩ := hrel
    cases gk with
    | zero => exact absurd HA.out (by simp [waveletref29_put.l0])
    | succ k1 =>
      have H := HA.out
      clear HA
      simp only [waveletref29_put.l0] at H
      by_cases c4 : x7_1 ≥ 0
      · rw [if_pos c4] at H
        have c4b0 : decide (0 ≤ x7_1) = true := decide_eq_true c4
        clear c4
        obtain ⟨ji5, hji5⟩ : ∃ j_ : Int, (wrap64 (8 * x7_1)) = j_ := ⟨_, rfl⟩
        replace H : (if 0 ≤ (ji5) then (if x0_1.length < 140737488355328 then (waveletref29_put.l0 k1 (x0_1 ++ [(shr .i64 a1 (ji5)) % 256]) a1 (wrap64 (x7_1 - 1))) else (none)) else (none)) = some r := by first | (rw [hji5] at H; exact H) | (simp only [hji5] at H ⊢; exact H)
        have hji5w : (IntKind.i64.wrap (8 * x7_1)) = ji5 := (i64_w _).trans hji5
        by_cases c6 : 0 ≤ (ji5)
        · rw [if_pos c6] at H
          have c6b0 := eq_true c6
          have c6b1 : decide (0 ≤ (ji5)) = true := decide_eq_true c6
          clear c6
          obtain ⟨ji7, hji7⟩ : ∃ j_ : Int, (shr .i64 a1 (ji5)) = j_ := ⟨_, rfl⟩
          replace H : (if x0_1.length < 140737488355328 then (waveletref29_put.l0 k1 (x0_1 ++ [(ji7) % 256]) a1 (wrap64 (x7_1 - 1))) else (none)) = some r := by first | (rw [hji7] at H; exact H) | (simp only [hji7] at H ⊢; exact H)
          have hji7_ : (a1 / 2 ^ min (ji5).toNat 64) = ji7 := hji7
          have hji7z : (ji5) ≤ 64 → (a1 / 2 ^ (ji5).toNat) = ji7 := shr_small hji7
          by_cases c8 : x0_1.length < 140737488355328
          · rw [if_pos c8] at H
            have LMc8 := Aside0.mk c8
            clear c8
            obtain ⟨y217, hy217⟩ : ∃ y_ : List Int, y_ = (x0_1 ++ [(ji7) % 256]) := ⟨_, rfl⟩
            replace H : (waveletref29_put.l0 k1 y217 a1 (wrap64 (x7_1 - 1))) = some r := by first | (rw [hy217]; with_reducible exact H) | (have H2_ := (Option.bind_some _ _).symm.trans H; rw [hy217]; with_reducible exact H2_) | (have H2_ := (Option.bind_some _ _).symm.trans H; with_reducible exact H2_) | with_reducible exact H | (rw [hy217]; exact H) | exact H
            have Ny217 := Aside0.mk hy217
            clear hy217
            have H' := Aside0.mk H
            clear H
            go_wp2_with (first | ((with_reducible refine gate_builtin (b := .append) (xs := #[.tmp 14, .tmp 20]) rfl ?_); at_builtin; refine Kd.R_append (Kd.int .u8) (w0 := w0) w0.heap.size rfl (.tmp 14) (.tmp 20) 24 5 (.int .u8 0) 1 rfl Try.underlying24 info5 rfl (by decide) (by omega) u0 x0_1 ((ji7) % 256) [.int .u8 ((ji7) % 256)] (fun k_ => (P0_ k_ ∨ w.heap.size ≤ k_)) (fun _ => False) rfl rfl ?aP (fun _ hk => hk.elim) ?aF ?aO ?aB ?aS ?aL ?_; (case aP => exact rfl); (case aB => exact (upB HB.out)); (case aF => exact (fun k_ hk => (.inr (Nat.le_trans (by first | exact HK.out.1 | exact (show Kept w _ (fun k_ => P0_ k_) from by repeat (first | (with_reducible first | exact HK.out | apply Kept.alloc | apply Kept.drewN | apply Kept.drew) | exact HK.out)).1) hk)))); (case aO => exact (upR HO_0.out)); (case aS => exact (below_size (upB HB.out))); (case aL => have := LMc8.out; omega); intro v218 w9 ho hb hg hat; rw [← Ny217.out] at ho; have n0_ := Aside0.mk (hb); have n1_ := Aside0.mk (Kept.of_grown (S := (fun k_ => P0_ k_)) hg (by repeat (first | (with_reducible first | exact HK.out | apply Kept.alloc | apply Kept.drewN | apply Kept.drew) | exact HK.out)) (fun k_ e_ => (HO_0.out.1 k_ e_))); have n2_ := Aside0.mk (ho); clear HB HK HO_0; have HB := n0_; have HK := n1_; have HO219 := n2_; clear n0_ n1_ n2_; clear ho hb hg hat))
            go_roundg k1
            case measure => have := HK1.out; omega
            case rel => exact ⟨(y217), (wrap64 (x7_1 - 1)), (by first | rfl | (simp; done) | (simp [*]; done)), H', ⟨by have := HK1.out; omega⟩, ⟨by (with_reducible repeat (first | apply Kd.R_alloc | apply Kd.R_drewN | apply Kd.R_drew)); exact HO219.out⟩, ⟨by repeat (first | (with_reducible first | exact HK.out | apply Kept.alloc | apply Kept.drewN | apply Kept.drew) | exact HK.out)⟩, ⟨by repeat (first | (with_reducible first | exact HB.out | apply below_alloc | apply pw_below_drewN | apply below_drew1) | exact HB.out)⟩⟩
          · rw [if_neg c8] at H
            exact absurd H (by simp)
        · rw [if_neg c6] at H
          exact absurd H (by simp)
      · rw [if_neg c4] at H
        have c4b0 : decide (0 ≤ x7_1) = false := decide_eq_false c4
        clear c4
        obtain rfl := Option.some.inj H
        go_wp2
        go_ret
        exact ⟨_, by first | rfl | (simp [errW_none, errW_some] <;> rfl) | (simp [*, errW_none, errW_some] <;> rfl), by (with_reducible repeat (first | apply Kd.R_alloc | apply Kd.R_drewN | apply Kd.R_drew)); exact HO_0.out, by repeat (first | (with_reducible first | exact HB.out | apply below_alloc | apply pw_below_drewN | apply below_drew1) | exact HB.out), by repeat (first | (with_reducible first | exact HK.out | apply Kept.alloc | apply Kept.drewN | apply Kept.drew) | exact HK.out)⟩

end Go.Proofs.Ytihfopblmjgfaaa.Q

/- What the reference's small functions of chapter 29 compute: the same. -/
namespace Go.Proofs.Ytihfopblmjgfaaa.Pure
open Go.RowKit Go.Proofs.Ytihfopblmjgfaaa.Q Go.Proofs.YtihfopblmjgfaaaW.PrintWords
set_option linter.unusedVariables false

theorem rin_eq (a lo hi : Int) : waveletref29_in.f a lo hi = some (decide (lo ≤ a) && decide (a ≤ hi)) := by
  unfold waveletref29_in.f
  by_cases h : lo ≤ a
  · rw [if_pos h, decide_eq_true h]; rfl
  · rw [if_neg h, decide_eq_false h]; rfl
theorem rshift_eq (n : Nat) (h : n ≤ 8) : wrap64 (8 * (n : Int)) = ((8 * n : Nat) : Int) := by
  unfold wrap64
  omega
theorem rput_loop (v : Int) (m : Nat) (hm : m ≤ 8) : ∀ (k : Nat) (acc : List Int), acc.length + m ≤ 140737488355328 → waveletref29_put.l0 (k + m + 1) acc v ((m : Int) - 1) = some (acc ++ be v m) := by
  induction m with
  | zero =>
    intro k acc ha
    rw [show k + 0 + 1 = k + 1 from rfl, waveletref29_put.l0, if_neg (by omega)]
    simp [be]
  | succ m ih =>
    intro k acc ha
    rw [show k + (m + 1) + 1 = (k + m + 1) + 1 by omega, waveletref29_put.l0, if_pos (by omega), show (((m + 1 : Nat) : Int) - 1) = (m : Int) by omega, rshift_eq m (by omega), if_pos (by omega), if_pos (by omega), show wrap64 ((m : Int) - 1) = (m : Int) - 1 by unfold wrap64; omega]
    rw [shr_eq v m (by omega), ih (by omega) k _ (by simp; omega)]
    simp [be]
theorem rput_eq (acc : List Int) (v : Int) (n : Nat) (hn : n ≤ 8) (ha : acc.length + n ≤ 140737488355328) (k : Nat) : waveletref29_put.f (k + 9) acc v (n : Int) = some (acc ++ be v n) := by
  unfold waveletref29_put.f
  rw [show wrap64 ((n : Int) - 1) = (n : Int) - 1 by unfold wrap64; omega]
  have := rput_loop v n hn (k + (8 - n)) acc ha
  rwa [show k + (8 - n) + n + 1 = k + 9 by omega] at this
/-- Some bytes of a list of bytes. -/
def sub (l : List Int) (a n : Nat) : List Int := (l.take (a + n)).drop a
theorem sub_length (l : List Int) (a n : Nat) (h : a + n ≤ l.length) : (sub l a n).length = n := by
  unfold sub
  rw [List.length_drop, List.length_take]
  omega
theorem rd_bytes {l : List Int} (hb : ∀ x ∈ l, (Lit.int .u8 x).wf = true) (i : Nat) (hi : i < l.length) : rd l (i : Int) = l[i] ∧ 0 ≤ l[i] ∧ l[i] ≤ 255 := by
  refine ⟨?_, wf_u8 (hb _ (List.getElem_mem hi))⟩
  unfold rd
  rw [Int.toNat_natCast, List.getD_eq_getElem?_getD, List.getElem?_eq_getElem hi]
  rfl
theorem get_loop {l : List Int} (hb : ∀ x ∈ l, (Lit.int .u8 x).wf = true) (hl : l.length ≤ 1000000) (a n : Nat) (hn : n ≤ 4) (han : a + n ≤ l.length) (d : Nat) : ∀ (k j : Nat) (v : Int), j + d = n → 0 ≤ v → v < 256 ^ j →
    waveletref29_get.l0 (k + d + 1) l (a : Int) (n : Int) v (j : Int) = some (((sub l a n).drop j).foldl step v) := by
  have hm := sub_length l a n han
  induction d with
  | zero =>
    intro k j v hj _ _
    rw [show k + 0 + 1 = k + 1 from rfl, waveletref29_get.l0, if_neg (by omega), List.drop_eq_nil_of_le (by omega)]
    rfl
  | succ d ih =>
    intro k j v hj h0 h1
    have hlt : j < (sub l a n).length := by omega
    have hi : a + j < l.length := by omega
    obtain ⟨hrd, hx0, hx1⟩ := rd_bytes hb (a + j) hi
    have he : (sub l a n)[j] = l[a + j] := by simp only [sub, List.getElem_drop, List.getElem_take]
    have hv : v < 16777216 := by
      have hj : j = 0 ∨ j = 1 ∨ j = 2 ∨ j = 3 := by omega
      rcases hj with rfl | rfl | rfl | rfl <;> simp at h1 <;> omega
    have hs : wrap64 (wrap64 (256 * v) + wrap64 l[a + j]) = step v l[a + j] := by
      rw [step_eq h0 hv hx0 hx1]
      unfold wrap64
      omega
    rw [show k + (d + 1) + 1 = (k + d + 1) + 1 by omega, waveletref29_get.l0, if_pos (by omega), show wrap64 ((a : Int) + (j : Int)) = ((a + j : Nat) : Int) by unfold wrap64; omega, if_pos (by omega), if_pos (by omega), hrd, hs, List.drop_eq_getElem_cons hlt]
    rw [show wrap64 ((j : Int) + 1) = ((j + 1 : Nat) : Int) by unfold wrap64; omega, ih k (j + 1) _ (by omega) (by rw [step_eq h0 hv hx0 hx1]; omega) (by rw [step_eq h0 hv hx0 hx1, Int.pow_succ]; omega), he]
    rfl
theorem get_eq {l : List Int} (hb : ∀ x ∈ l, (Lit.int .u8 x).wf = true) (hl : l.length ≤ 1000000) (a n : Nat) (hn : n ≤ 4) (han : a + n ≤ l.length) (k : Nat) : waveletref29_get.f (k + 6) l (a : Int) (n : Int) = some (num (sub l a n)) := by
  have := get_loop hb hl a n hn han n (k + (5 - n)) 0 0 (by omega) (by omega) (by simp)
  rw [show k + (5 - n) + n + 1 = k + 6 by omega] at this
  simpa [waveletref29_get.f, num] using this
/-- ReadUint at a place within. -/
theorem RU_in (l : List Int) (a n : Nat) (h1 : 1 ≤ n) (hn : n ≤ 4) (han : a + n ≤ l.length) : RU l (a : Int) (n : Int) = (num (sub l a n), 0) := by
  unfold RU
  rw [if_neg (by omega), if_neg (by omega)]
  rfl
theorem RU_out (l : List Int) (a n : Nat) (h1 : 1 ≤ n) (hn : n ≤ 4) (ha : a ≤ l.length) (han : l.length < a + n) : RU l (a : Int) (n : Int) = (0, 7) := by
  unfold RU
  rw [if_neg (by omega), if_pos (by omega)]
theorem same_loop (a : List Int) (ha : a.length ≤ 1000000000000) (d : Nat) : ∀ (k j : Nat), j + d = a.length → waveletlaw29_same.l0 (k + d + 1) a a (a.length : Int) (j : Int) = some true := by
  induction d with
  | zero =>
    intro k j hj
    rw [show k + 0 + 1 = k + 1 from rfl, waveletlaw29_same.l0, if_neg (by omega)]
  | succ d ih =>
    intro k j hj
    rw [show k + (d + 1) + 1 = (k + d + 1) + 1 by omega, waveletlaw29_same.l0, if_pos (by omega), if_pos (by omega), if_pos (by omega), if_pos (by omega), if_pos rfl]
    rw [show wrap64 ((j : Int) + 1) = ((j + 1 : Nat) : Int) by unfold wrap64; omega, ih k (j + 1) (by omega)]
theorem same_refl (a : List Int) (ha : a.length ≤ 1000000000000) (k : Nat) : waveletlaw29_same.f (k + a.length + 1) a a = some true := by
  have := same_loop a ha a.length k 0 (by omega)
  simpa [waveletlaw29_same.f] using this
theorem sameSegment_refl (c : Int) (a : List Int) (ha : a.length ≤ 1000000000000) (k : Nat) : waveletlaw29_sameSegment.f (k + a.length + 1) c a c a = some true := by
  unfold waveletlaw29_sameSegment.f
  rw [if_pos rfl, same_refl a ha k]
  rfl
theorem framed_eq (c : Int) (l : List Int) (code n : Int) : waveletref29_framed.f c l code n = some (if c = code then (if (l.length : Int) < n then 7 else if (l.length : Int) > n then 9 else 0) else 11) := by
  unfold waveletref29_framed.f
  repeat' split
  all_goals rfl
end Go.Proofs.Ytihfopblmjgfaaa.Pure

/- Lengths in plain lists and numbers. -/
namespace Go.Proofs.Ytihfopblmjgfaaa.Pure
open Go.RowKit Go.Proofs.Ytihfopblmjgfaaa.Q Go.Proofs.YtihfopblmjgfaaaW.PrintWords
set_option linter.unusedVariables false
set_option maxRecDepth 100000

theorem Ev.pos {α : Type} {c : Prop} [Decidable c] {f g : Nat → Option α} {r : α} (h : c) (k : Ev f r) : Ev (fun n => if c then f n else g n) r := by
  obtain ⟨K, hk⟩ := k
  exact ⟨K, fun n hn => (if_pos h).trans (hk n hn)⟩
theorem Ev.neg {α : Type} {c : Prop} [Decidable c] {f g : Nat → Option α} {r : α} (h : ¬ c) (k : Ev g r) : Ev (fun n => if c then f n else g n) r := by
  obtain ⟨K, hk⟩ := k
  exact ⟨K, fun n hn => (if_neg h).trans (hk n hn)⟩
theorem Ev.plus {α : Type} {f : Nat → Option α} {r : α} (m : Nat) (h : ∀ k, f (k + m) = some r) : Ev f r :=
  ⟨m, fun n hn => by rw [← h (n - m)]; congr 1; omega⟩
theorem Ev.val {α : Type} {f : Nat → Option α} {r : α} (h : Ev f r) : ∃ K, ∀ k, K ≤ k → f k = some r := h
theorem ev_put (acc : List Int) (v : Int) (n : Nat) (hn : n ≤ 8) (ha : acc.length + n ≤ 140737488355328) : Ev (fun k => headseg_put.f k acc (n : Int) v) (acc ++ be v n) := Ev.plus 9 (put_eq acc v n hn ha)
theorem ev_rput (acc : List Int) (v : Int) (n : Nat) (hn : n ≤ 8) (ha : acc.length + n ≤ 140737488355328) : Ev (fun k => waveletref29_put.f k acc v (n : Int)) (acc ++ be v n) := Ev.plus 9 (rput_eq acc v n hn ha)
theorem ev_within (lo hi : Int) (l : List Int) (hl : l.length ≤ 9223372036854775807) : Ev (fun k => headseg_within.f k lo hi l) (inside lo hi l) :=
  Ev.plus (l.length + 1) (fun k => by rw [← Nat.add_assoc]; exact within_eq lo hi l hl k)
theorem ev_awake : Ev (fun k => waveletlaw29_awake.f k) true := by
  obtain ⟨k, h⟩ := awake_holds
  exact Ev.of waveletlaw29_awake.mono h
theorem ev_ru (l : List Int) (a n : Int) (hl : l.length ≤ 1000000) (ha : a ≤ 9223372036854775807) : Ev (fun k => marker_ReadUint.f k l a n) (RU l a n) := Ev.plus 6 (ru_eq l a n hl ha)
theorem ev_get {l : List Int} (hb : ∀ x ∈ l, (Lit.int .u8 x).wf = true) (hl : l.length ≤ 1000000) (a n : Nat) (hn : n ≤ 4) (han : a + n ≤ l.length) : Ev (fun k => waveletref29_get.f k l (a : Int) (n : Int)) (num (sub l a n)) := Ev.plus 6 (get_eq hb hl a n hn han)
theorem ev_same (a : List Int) (ha : a.length ≤ 1000000000000) : Ev (fun k => waveletlaw29_same.f k a a) true := Ev.plus (a.length + 1) (fun k => by rw [← Nat.add_assoc]; exact same_refl a ha k)
theorem ev_sameSegment (c : Int) (a : List Int) (ha : a.length ≤ 1000000000000) : Ev (fun k => waveletlaw29_sameSegment.f k c a c a) true := Ev.plus (a.length + 1) (fun k => by rw [← Nat.add_assoc]; exact sameSegment_refl c a ha k)

theorem rd_at {l : List Int} (i : Nat) (hi : i < l.length) : rd l (i : Int) = l[i] := by
  unfold rd
  rw [Int.toNat_natCast, List.getD_eq_getElem?_getD, List.getElem?_eq_getElem hi]
  rfl
/-- The bytes of some numbers. -/
def enc4 : List Int → List Int
  | [] => []
  | v :: l => be v 4 ++ enc4 l
theorem enc4_length : ∀ l : List Int, (enc4 l).length = 4 * l.length
  | [] => rfl
  | v :: l => by simp [enc4, be_length, enc4_length l]; omega
/-- The numbers of the segment i. -/
def chunk (l : List Int) (i : Nat) : List Int := (l.drop (16000 * i)).take 16000
def segAt (c : Int) (l : List Int) (i : Nat) : S26 := ⟨c, (i : Int) % 256 :: enc4 (chunk l i)⟩
def nseg (l : List Int) : Nat := max 1 ((l.length + 15999) / 16000)
/-- The segments from number i on. -/
def segsFrom (c : Int) (l : List Int) : Nat → Nat → List S26
  | _, 0 => []
  | i, d + 1 => segAt c l i :: segsFrom c l (i + 1) d
def LenF (c : Int) (l : List Int) : List S26 × Int :=
  if ¬ (c = 65445 ∨ c = 65457) then ([], 3) else if inside 0 4294967295 l then (segsFrom c l 0 (nseg l), 0) else ([], 2)
theorem len_inner {R : List S26 × Int} (c : Int) (l : List Int) (acc : List S26) (x7 : Int) (m : List Int) (hm : m.length ≤ 40000) (hacc : acc.length ≤ 1000) (d : Nat) : ∀ (j : Nat) (x8 : List Int), j + d = m.length → x8.length ≤ 4 * j + 1 →
    Ev (fun k => headseg_Lengths.l0 k c l (acc ++ [(⟨c, x8 ++ enc4 (m.drop j)⟩ : S26)]) (wrap64 (x7 + 16000))) R → Ev (fun k => headseg_Lengths.l1 k c l acc x7 x8 m (m.length : Int) (j : Int)) R := by
  induction d with
  | zero =>
    intro j x8 hj hx h
    refine Ev.step (fun k => headseg_Lengths.l1.eq_2 ..) (Ev.neg (by omega) (Ev.pos (by omega) ?_))
    rw [List.drop_eq_nil_of_le (by omega)] at h
    simpa [enc4] using h
  | succ d ih =>
    intro j x8 hj hx h
    refine Ev.step (fun k => headseg_Lengths.l1.eq_2 ..) (Ev.pos (by omega) (Ev.pos (by omega) (Ev.pos (by omega) (Ev.bind (ev_put x8 _ 4 (by omega) (by omega)) ?_))))
    rw [show wrap64 ((j : Int) + 1) = ((j + 1 : Nat) : Int) by unfold wrap64; omega]
    refine ih (j + 1) _ (by omega) (by simp [be_length]; omega) ?_
    rw [List.drop_eq_getElem_cons (show j < m.length by omega)] at h
    rw [rd_at j (by omega)]
    simpa [enc4] using h
theorem cut_chunk (l : List Int) (i : Nat) (x : Int) (hx : x = mn (((16000 * i : Nat) : Int) + 16000) (l.length : Int)) : (l.take x.toNat).drop (16000 * i) = chunk l i := by
  subst hx
  unfold chunk mn
  rw [List.drop_take]
  rcases Nat.lt_or_ge l.length (16000 * i + 16000) with h | h
  · rw [List.take_of_length_le (l := l.drop (16000 * i)) (i := 16000) (by rw [List.length_drop]; omega), List.take_of_length_le]
    rw [List.length_drop]
    split <;> omega
  · congr 1
    split <;> omega
theorem len_outer (c : Int) (l : List Int) (hl : l.length ≤ 40000) (d : Nat) : ∀ (i : Nat) (acc : List S26), i + d = nseg l → acc.length ≤ i → Ev (fun k => headseg_Lengths.l0 k c l acc ((16000 * i : Nat) : Int)) (acc ++ segsFrom c l i d, 0) := by
  have hn : nseg l ≤ 3 := by unfold nseg; omega
  induction d with
  | zero =>
    intro i acc hi ha
    have h1 : 1 ≤ i ∧ l.length ≤ 16000 * i := by unfold nseg at hi; omega
    refine Ev.step (fun k => headseg_Lengths.l0.eq_2 ..) (Ev.neg (by omega) (Ev.step (fun k => headseg_Lengths.j2.eq_2 ..) (Ev.neg ?_ ?_)))
    · simp; omega
    · simpa [segsFrom] using Ev.now (acc, (0 : Int))
  | succ d ih =>
    intro i acc hi ha
    have h1 : i = 0 ∨ 16000 * i < l.length := by unfold nseg at hi; omega
    have hmn : mn (wrap64 (((16000 * i : Nat) : Int) + 16000)) (l.length : Int) = mn (((16000 * i : Nat) : Int) + 16000) (l.length : Int) := by
      rw [show wrap64 (((16000 * i : Nat) : Int) + 16000) = ((16000 * i : Nat) : Int) + 16000 by unfold wrap64; omega]
    have hb : ((16000 * i : Nat) : Int) ≤ mn (((16000 * i : Nat) : Int) + 16000) (l.length : Int) ∧ mn (((16000 * i : Nat) : Int) + 16000) (l.length : Int) ≤ (l.length : Int) := by
      unfold mn
      split <;> omega
    have key : Ev (fun k => headseg_Lengths.j2 k c l acc ((16000 * i : Nat) : Int) true) (acc ++ segsFrom c l i (d + 1), 0) := by
      refine Ev.step (fun k => headseg_Lengths.j2.eq_2 ..) (Ev.pos rfl (Ev.pos (by omega) (Ev.pos (by rw [hmn]; omega) (Ev.pos (by rw [hmn]; omega) ?_))))
      rw [hmn, show (((16000 * i : Nat) : Int)).toNat = 16000 * i by omega, cut_chunk l i _ rfl]
      have hd : wrap64 (Int.tdiv ((16000 * i : Nat) : Int) 16000) % 256 = (i : Int) % 256 := by
        rw [show Int.tdiv ((16000 * i : Nat) : Int) 16000 = (i : Int) by rw [Int.tdiv_eq_ediv_of_nonneg (by omega)]; omega]
        unfold wrap64
        omega
      rw [hd]
      have hcl : (chunk l i).length ≤ 40000 := by unfold chunk; rw [List.length_take, List.length_drop]; omega
      refine len_inner c l acc _ (chunk l i) hcl (by omega) (chunk l i).length 0 _ (by omega) (by simp) ?_
      rw [show wrap64 (((16000 * i : Nat) : Int) + 16000) = ((16000 * (i + 1) : Nat) : Int) by unfold wrap64; omega]
      have := ih (i + 1) (acc ++ [segAt c l i]) (by omega) (by simp; omega)
      simpa [segsFrom, segAt] using this
    refine Ev.step (fun k => headseg_Lengths.l0.eq_2 ..) ?_
    by_cases h0 : i = 0
    · subst h0
      exact Ev.pos (by omega) key
    · refine Ev.neg (by omega) ?_
      rw [decide_eq_true (show ((16000 * i : Nat) : Int) < (l.length : Int) by omega)]
      exact key
theorem len_ev (c : Int) (l : List Int) (hl : l.length ≤ 40000) : Ev (fun k => headseg_Lengths.f k c l) (LenF c l) := by
  have hj : Ev (fun k => headseg_Lengths.j0 k c l true) ([], 3) := Ev.step (fun k => headseg_Lengths.j0.eq_2 ..) (Ev.pos rfl (Ev.now _))
  have hk : Ev (fun k => headseg_Lengths.j0 k c l false) (if inside 0 4294967295 l then (segsFrom c l 0 (nseg l), 0) else ([], 2)) := by
    refine Ev.step (fun k => headseg_Lengths.j0.eq_2 ..) (Ev.neg (by simp) (Ev.neg (by omega) (Ev.bind (ev_within 0 4294967295 l (by omega)) ?_)))
    cases hw : inside 0 4294967295 l with
    | true => exact Ev.pos rfl (by have := len_outer c l hl (nseg l) 0 [] (by omega) (by simp); simpa using this)
    | false => exact Ev.neg (by simp) (Ev.now _)
  unfold LenF
  refine Ev.congr (fun k => headseg_Lengths.f.eq_1 ..) ?_
  by_cases h1 : c = 65445
  · rw [if_neg (fun h => h (.inl h1))]
    exact Ev.pos h1 hk
  · refine Ev.neg h1 ?_
    by_cases h2 : c = 65457
    · rw [if_neg (fun h => h (.inr h2)), show (c != 65457) = false by simp [h2]]
      exact hk
    · rw [if_pos (by omega), show (c != 65457) = true by simp [h2]]
      exact hj
theorem seg_length (c : Int) (l : List Int) (i : Nat) : (segAt c l i).f1.length ≤ 64001 := by
  simp only [segAt, List.length_cons, enc4_length, chunk, List.length_take]
  omega
theorem segsFrom_length (c : Int) (l : List Int) : ∀ (d i : Nat), (segsFrom c l i d).length = d
  | 0, i => rfl
  | d + 1, i => by simp [segsFrom, segsFrom_length c l d]
theorem segsFrom_get (c : Int) (l : List Int) : ∀ (d i j : Nat) (h : j < (segsFrom c l i d).length), (segsFrom c l i d)[j] = segAt c l (i + j)
  | 0, i, j, h => by simp [segsFrom] at h
  | d + 1, i, 0, h => by simp [segsFrom]
  | d + 1, i, j + 1, h => by
    simp only [segsFrom, List.getElem_cons_succ]
    rw [segsFrom_get c l d (i + 1) j]
    congr 1
    omega
end Go.Proofs.Ytihfopblmjgfaaa.Pure

/- Reading numbers, in the limit. -/
namespace Go.Proofs.Ytihfopblmjgfaaa.Pure
open Go.RowKit Go.Proofs.Ytihfopblmjgfaaa.Q Go.Proofs.YtihfopblmjgfaaaW.PrintWords
set_option linter.unusedVariables false
set_option maxRecDepth 100000
theorem ev_rdn {ρ : Type} {l : List Int} {p n : Int} {bad : Int → ρ} {f : Nat → Int → Option ρ} {v : Int} {r : ρ} (h : Ev (fun k => marker_ReadUint.f k l p n) (v, 0)) (hf : Ev (fun k => f k v) r) : Ev (fun k => rdn k l p n bad (f k)) r := Ev.bind h (Ev.pos rfl hf)
theorem ev_rdn_bad {ρ : Type} {l : List Int} {p n : Int} {bad : Int → ρ} {f : Nat → Int → Option ρ} {v e : Int} (he : e ≠ 0) (h : Ev (fun k => marker_ReadUint.f k l p n) (v, e)) : Ev (fun k => rdn k l p n bad (f k)) (bad e) := Ev.bind h (Ev.neg he (Ev.now _))
theorem ev_in (l : List Int) (hl : l.length ≤ 1000000) (a n : Nat) (h1 : 1 ≤ n) (hn : n ≤ 4) (han : a + n ≤ l.length) : Ev (fun k => marker_ReadUint.f k l (a : Int) (n : Int)) (num (sub l a n), 0) := by
  have := ev_ru l (a : Int) (n : Int) hl (by omega)
  rwa [RU_in l a n h1 hn han] at this
theorem ev_out (l : List Int) (hl : l.length ≤ 1000000) (a n : Nat) (h1 : 1 ≤ n) (hn : n ≤ 4) (ha : a ≤ l.length) (han : l.length < a + n) : Ev (fun k => marker_ReadUint.f k l (a : Int) (n : Int)) (0, 7) := by
  have := ev_ru l (a : Int) (n : Int) hl (by omega)
  rwa [RU_out l a n h1 hn ha han] at this
theorem sub_one (l : List Int) (a : Nat) (h : a < l.length) : sub l a 1 = [l[a]] := by
  unfold sub
  rw [List.drop_take, show a + 1 - a = 1 by omega, List.drop_eq_getElem_cons h]
  rfl
theorem num_one {l : List Int} (hb : ∀ x ∈ l, (Lit.int .u8 x).wf = true) (a : Nat) (h : a < l.length) : num (sub l a 1) = l[a] := by
  rw [sub_one l a h]
  obtain ⟨h0, h1⟩ := wf_u8 (hb _ (List.getElem_mem h))
  simp only [num, List.foldl]
  rw [step_eq (by omega) (by omega) h0 h1]
  omega
theorem getD_at {l : List Int} (i : Nat) (h : i < l.length) : l.getD i 0 = l[i] := by
  rw [List.getD_eq_getElem?_getD, List.getElem?_eq_getElem h]
  rfl
end Go.Proofs.Ytihfopblmjgfaaa.Pure

/- Coding: what it computes. Printed by wip/tools/genPureCoding.py of this session. -/
namespace Go.Proofs.Ytihfopblmjgfaaa.Pure
open Go.RowKit Go.Proofs.Ytihfopblmjgfaaa.Q Go.Proofs.YtihfopblmjgfaaaW.PrintWords
set_option linter.unusedVariables false
set_option maxRecDepth 100000

/-- The number of the first i flags. -/
def part (fl : List Bool) : Nat → Int
  | 0 => 0
  | i + 1 => part fl i + (if bat fl (i : Int) = true then 2 ^ i else 0)
theorem part_or : ∀ b0 b1 b2 b3 b4 b5 b6 b7 : Bool, ∀ i : Fin 8, bat [b0, b1, b2, b3, b4, b5, b6, b7] ((i.val : Nat) : Int) = true → Go.bits .or .i64 (part [b0, b1, b2, b3, b4, b5, b6, b7] i.val) (wrap64 (2 ^ min ((i.val : Nat) : Int).toNat 64)) = part [b0, b1, b2, b3, b4, b5, b6, b7] (i.val + 1) := by decide +kernel
theorem part_le : ∀ b0 b1 b2 b3 b4 b5 b6 b7 : Bool, 0 ≤ part [b0, b1, b2, b3, b4, b5, b6, b7] 8 ∧ part [b0, b1, b2, b3, b4, b5, b6, b7] 8 ≤ 255 := by decide +kernel
theorem part_none (fl : List Bool) (i : Nat) (h : bat fl (i : Int) = false) : part fl (i + 1) = part fl i := by simp [part, h]
/-- The numbers' bytes. -/
def enc1 : List Int → List Int
  | [] => []
  | v :: l => v % 256 :: enc1 l
theorem enc1_length : ∀ l : List Int, (enc1 l).length = l.length
  | [] => rfl
  | v :: l => by simp [enc1, enc1_length l]
/-- The precincts' bytes. -/
def encP : List S89 → List Int
  | [] => []
  | q :: l => wrap64 (q.f0 + wrap64 (16 * q.f1)) % 256 :: encP l
theorem encP_length : ∀ l : List S89, (encP l).length = l.length
  | [] => rfl
  | v :: l => by simp [encP, encP_length l]
def precOK : List S89 → Bool
  | [] => true
  | q :: l => ((decide (0 ≤ q.f0) && decide (q.f0 ≤ 15)) && (decide (0 ≤ q.f1) && decide (q.f1 ≤ 15))) && precOK l
theorem rdP_at {s : List S89} (i : Nat) (hi : i < s.length) : rd_T89 s (i : Int) = s[i] := by
  unfold rd_T89
  rw [Int.toNat_natCast, List.getD_eq_getElem?_getD, List.getElem?_eq_getElem hi]
  rfl
/-- What comes of the precincts, behind the bytes b. -/
def CodC (t : List S89) (b : List Int) : Int × List Int × Int := if precOK t = true then (65442, b ++ encP t, 0) else (0, [], 2)
theorem CodC_cons (q : S89) (t : List S89) (b : List Int) : CodC (q :: t) b = if ((decide (0 ≤ q.f0) && decide (q.f0 ≤ 15)) && (decide (0 ≤ q.f1) && decide (q.f1 ≤ 15))) = true then CodC t (b ++ [wrap64 (q.f0 + wrap64 (16 * q.f1)) % 256]) else (0, [], 2) := by
  unfold CodC
  rw [precOK, encP]
  generalize ((decide (0 ≤ q.f0) && decide (q.f0 ≤ 15)) && (decide (0 ≤ q.f1) && decide (q.f1 ≤ 15))) = c
  cases c
  · simp
  · simp
theorem hcC_ev (t : List S89) (ht : t.length ≤ 1000) (n : Nat) : ∀ (i : Nat) (b : List Int), i + n = t.length → b.length ≤ 1000 + i → Ev (fun k => hcC k t b (i : Int)) (CodC (t.drop i) b) := by
  induction n with
  | zero =>
    intro i b hi hb
    rw [List.drop_eq_nil_of_le (by omega)]
    exact Ev.step (fun k => hcC.eq_2 ..) (Ev.neg (by omega) (by simpa [CodC, precOK, encP] using Ev.now ((65442 : Int), b, (0 : Int))))
  | succ n ih =>
    intro i b hi hb
    have hlt : i < t.length := by omega
    have w1 := ev_within 0 15 [t[i].f0, t[i].f1] (by simp)
    rw [show inside 0 15 [t[i].f0, t[i].f1] = ((decide (0 ≤ t[i].f0) && decide (t[i].f0 ≤ 15)) && (decide (0 ≤ t[i].f1) && decide (t[i].f1 ≤ 15))) by simp [inside]] at w1
    rw [List.drop_eq_getElem_cons hlt, CodC_cons]
    refine Ev.step (fun k => hcC.eq_2 ..) (Ev.pos (by omega) (Ev.pos (by omega) ?_))
    rw [rdP_at i hlt, show wrap64 ((i : Int) + 1) = ((i + 1 : Nat) : Int) by unfold wrap64; omega]
    refine Ev.bind w1 ?_
    generalize ((decide (0 ≤ t[i].f0) && decide (t[i].f0 ≤ 15)) && (decide (0 ≤ t[i].f1) && decide (t[i].f1 ≤ 15))) = c
    cases c with
    | false => exact Ev.neg (by simp) (by simpa using Ev.now ((0 : Int), ([] : List Int), (2 : Int)))
    | true =>
      rw [if_pos rfl]
      exact Ev.pos rfl (Ev.pos (by omega) (ih (i + 1) _ (by omega) (by simp; omega)))
theorem hcB_ev (t : List S89) (ht : t.length ≤ 1000) (L : List Int) (hL : L.length ≤ 100) (n : Nat) : ∀ (i : Nat) (b : List Int), i + n = L.length → b.length ≤ i → Ev (fun k => hcB k t L b (i : Int)) (CodC t (b ++ enc1 (L.drop i))) := by
  induction n with
  | zero =>
    intro i b hi hb
    rw [List.drop_eq_nil_of_le (by omega)]
    refine Ev.step (fun k => hcB.eq_2 ..) (Ev.neg (by omega) ?_)
    have := hcC_ev t ht t.length 0 b (by omega) (by omega)
    simpa [enc1] using this
  | succ n ih =>
    intro i b hi hb
    have hlt : i < L.length := by omega
    refine Ev.step (fun k => hcB.eq_2 ..) (Ev.pos (by omega) (Ev.pos (by omega) (Ev.pos (by omega) ?_)))
    rw [rd_at i hlt, show wrap64 ((i : Int) + 1) = ((i + 1 : Nat) : Int) by unfold wrap64; omega, List.drop_eq_getElem_cons hlt]
    have := ih (i + 1) (b ++ [L[i] % 256]) (by omega) (by simp; omega)
    simpa [enc1] using this
theorem hcA_ev (t : List S89) (ht : t.length ≤ 1000) (b0 b1 b2 b3 b4 b5 b6 b7 : Bool) (x0 x1 x2 x3 x4 x6 x7 x18 : Int) (n : Nat) : ∀ (i : Nat), i + n = 8 → Ev (fun k => hcA k t [b0, b1, b2, b3, b4, b5, b6, b7] [x0, x1, x2, x3, x4, x6, x7, part [b0, b1, b2, b3, b4, b5, b6, b7] i, x18] (i : Int)) (CodC t (enc1 [x0, x1, x2, x3, x4, x6, x7, part [b0, b1, b2, b3, b4, b5, b6, b7] 8, x18, (t.length : Int)])) := by
  induction n with
  | zero =>
    intro i hi
    obtain rfl : i = 8 := by omega
    refine Ev.step (fun k => hcA.eq_2 ..) (Ev.neg (by omega) ?_)
    exact hcB_ev t ht [x0, x1, x2, x3, x4, x6, x7, part [b0, b1, b2, b3, b4, b5, b6, b7] 8, x18, (t.length : Int)] (by simp) 10 0 [] (by simp) (by simp)
  | succ n ih =>
    intro i hi
    have hw : wrap64 ((i : Int) + 1) = ((i + 1 : Nat) : Int) := by unfold wrap64; omega
    refine Ev.step (fun k => hcA.eq_2 ..) (Ev.pos (by omega) (Ev.pos (by omega) ?_))
    rw [hw]
    have := ih (i + 1) (by omega)
    by_cases hb : bat [b0, b1, b2, b3, b4, b5, b6, b7] (i : Int) = true
    · refine Ev.pos hb ?_
      have hp : Go.bits .or .i64 (part [b0, b1, b2, b3, b4, b5, b6, b7] i) (wrap64 (2 ^ min (i : Int).toNat 64)) = part [b0, b1, b2, b3, b4, b5, b6, b7] (i + 1) := part_or b0 b1 b2 b3 b4 b5 b6 b7 ⟨i, by omega⟩ hb
      rw [show rd [x0, x1, x2, x3, x4, x6, x7, part [b0, b1, b2, b3, b4, b5, b6, b7] i, x18] 7 = part [b0, b1, b2, b3, b4, b5, b6, b7] i from rfl, hp]
      exact this
    · refine Ev.neg hb ?_
      rw [part_none _ i (by simpa using hb)] at this
      exact this
def codL (p0 : Int) (p1 : Int) (p2 : Int) (p3 : Int) (p4 : Int) (t : List S89) (p6 : Int) (p7 : Int) (b0 : Bool) (b1 : Bool) (b2 : Bool) (b3 : Bool) (b4 : Bool) (b5 : Bool) (b6 : Bool) (b7 : Bool) (s : List Int) (dd : Int) (p18 : Int) : List Int := [p0, p1, p2, p3, p4, p6, p7, part [b0, b1, b2, b3, b4, b5, b6, b7] 8, p18, (t.length : Int)]
/-- What Coding returns. -/
def CodF (p0 : Int) (p1 : Int) (p2 : Int) (p3 : Int) (p4 : Int) (t : List S89) (p6 : Int) (p7 : Int) (b0 : Bool) (b1 : Bool) (b2 : Bool) (b3 : Bool) (b4 : Bool) (b5 : Bool) (b6 : Bool) (b7 : Bool) (s : List Int) (dd : Int) (p18 : Int) : Int × List Int × Int := if inside 0 255 (codL p0 p1 p2 p3 p4 t p6 p7 b0 b1 b2 b3 b4 b5 b6 b7 s dd p18) = true then CodC t (enc1 (codL p0 p1 p2 p3 p4 t p6 p7 b0 b1 b2 b3 b4 b5 b6 b7 s dd p18)) else (0, [], 2)
theorem coding_ev (p0 : Int) (p1 : Int) (p2 : Int) (p3 : Int) (p4 : Int) (t : List S89) (p6 : Int) (p7 : Int) (b0 : Bool) (b1 : Bool) (b2 : Bool) (b3 : Bool) (b4 : Bool) (b5 : Bool) (b6 : Bool) (b7 : Bool) (s : List Int) (dd : Int) (p18 : Int) (ht : t.length ≤ 1000) : Ev (fun k => headseg_Coding.f k p0 p1 p2 p3 p4 t p6 p7 b0 b1 b2 b3 b4 b5 b6 b7 s dd p18) (CodF p0 p1 p2 p3 p4 t p6 p7 b0 b1 b2 b3 b4 b5 b6 b7 s dd p18) := by
  refine Ev.congr (fun k => headseg_Coding.f.eq_1 ..) ?_
  have w1 := ev_within 0 255 [p0, p1, p2, p3, p4, p6, p7, 0, p18] (by simp)
  have hp := part_le b0 b1 b2 b3 b4 b5 b6 b7
  have e : inside 0 255 (codL p0 p1 p2 p3 p4 t p6 p7 b0 b1 b2 b3 b4 b5 b6 b7 s dd p18) = (inside 0 255 [p0, p1, p2, p3, p4, p6, p7, 0, p18] && decide (t.length ≤ 255)) := by
    simp only [codL, inside, List.all_cons, List.all_nil, Bool.and_true]
    rw [decide_eq_true hp.1, decide_eq_true hp.2]
    simp only [Bool.and_assoc]
    have e1 : decide (0 ≤ (t.length : Int)) = true := decide_eq_true (by omega)
    have e2 : decide ((t.length : Int) ≤ 255) = decide (t.length ≤ 255) := by congr 1; apply propext; omega
    rw [e1, e2]
    simp
  unfold CodF
  rw [e]
  refine Ev.bind w1 ?_
  generalize inside 0 255 [p0, p1, p2, p3, p4, p6, p7, 0, p18] = c
  cases c with
  | false => exact Ev.neg (by simp) (by simpa using Ev.now ((0 : Int), ([] : List Int), (2 : Int)))
  | true =>
    refine Ev.pos rfl ?_
    by_cases h : (t.length : Int) > 255
    · rw [decide_eq_false (by omega)]
      exact Ev.pos h (by simpa using Ev.now ((0 : Int), ([] : List Int), (2 : Int)))
    · rw [decide_eq_true (show t.length ≤ 255 by omega)]
      refine Ev.neg h ?_
      rw [if_pos (by simp)]
      have := hcA_ev t ht b0 b1 b2 b3 b4 b5 b6 b7 p0 p1 p2 p3 p4 p6 p7 p18 8 0 (by omega)
      exact this
theorem CodC_length (t : List S89) (b : List Int) : (CodC t b).2.1.length ≤ b.length + t.length := by
  unfold CodC
  split
  · simp [encP_length]
  · simp
theorem CodF_length (p0 : Int) (p1 : Int) (p2 : Int) (p3 : Int) (p4 : Int) (t : List S89) (p6 : Int) (p7 : Int) (b0 : Bool) (b1 : Bool) (b2 : Bool) (b3 : Bool) (b4 : Bool) (b5 : Bool) (b6 : Bool) (b7 : Bool) (s : List Int) (dd : Int) (p18 : Int) (ht : t.length ≤ 1000) : (CodF p0 p1 p2 p3 p4 t p6 p7 b0 b1 b2 b3 b4 b5 b6 b7 s dd p18).2.1.length ≤ 2000 := by
  unfold CodF
  split
  · have := CodC_length t (enc1 (codL p0 p1 p2 p3 p4 t p6 p7 b0 b1 b2 b3 b4 b5 b6 b7 s dd p18))
    rw [enc1_length] at this
    have h : (codL p0 p1 p2 p3 p4 t p6 p7 b0 b1 b2 b3 b4 b5 b6 b7 s dd p18).length = 10 := rfl
    omega
  · simp
end Go.Proofs.Ytihfopblmjgfaaa.Pure

/- What headseg's own functions compute. Printed by wip/tools/genPureOurs.py of this session. -/
namespace Go.Proofs.Ytihfopblmjgfaaa.Pure
open Go.RowKit Go.Proofs.Ytihfopblmjgfaaa.Q Go.Proofs.YtihfopblmjgfaaaW.PrintWords
set_option linter.unusedVariables false
set_option maxRecDepth 100000
theorem valid_some (a b c d : Int) : ∃ r, rect_Valid.f a b c d = some r := by
  unfold rect_Valid.f
  repeat' split
  all_goals exact ⟨_, rfl⟩
theorem empty_some (a b c d : Int) : ∃ r, rect_Empty.f a b c d = some r := by
  unfold rect_Empty.f
  repeat' split
  all_goals exact ⟨_, rfl⟩
theorem ceil_some (a b : Int) : ∃ r, rect_CeilDiv.f a b = some r := by
  unfold rect_CeilDiv.f
  by_cases h : b < 1
  · exact ⟨_, if_pos h⟩
  · rw [if_neg h, if_neg (by omega)]
    split
    all_goals exact ⟨_, rfl⟩
theorem floor_some (a b : Int) : ∃ r, rect_FloorDiv.f a b = some r := by
  unfold rect_FloorDiv.f
  by_cases h : b < 1
  · exact ⟨_, if_pos h⟩
  · rw [if_neg h, if_neg (by omega)]
    split
    all_goals exact ⟨_, rfl⟩
theorem area_some (a b c d : Int) : ∃ r, rect_Area.f a b c d = some r := by
  obtain ⟨v, hv⟩ := valid_some a b c d
  unfold rect_Area.f
  rw [hv]
  cases v
  all_goals exact ⟨_, rfl⟩
theorem ev_reduce (a b c d x y : Int) : ∃ r, Ev (fun k => rect_Reduce.f k a b c d x y) r := by
  have hj : ∀ z, ∃ r, Ev (fun k => rect_Reduce.j0 k x y z a b c d) r := fun z => by
    cases z with
    | true => exact ⟨_, Ev.step (fun k => rect_Reduce.j0.eq_2 ..) (Ev.pos rfl (Ev.now _))⟩
    | false =>
      obtain ⟨r1, h1⟩ := ceil_some a x
      obtain ⟨r2, h2⟩ := ceil_some b y
      obtain ⟨r3, h3⟩ := ceil_some c x
      obtain ⟨r4, h4⟩ := ceil_some d y
      refine ⟨(r1, r2, r3, r4), Ev.step (fun k => rect_Reduce.j0.eq_2 ..) (Ev.neg (by simp) ?_)⟩
      rw [h1, h2, h3, h4]
      exact Ev.now _
  obtain ⟨v, hv⟩ := valid_some a b c d
  obtain ⟨rt, ht⟩ := hj true
  obtain ⟨rl, hl⟩ := hj (decide (y > 4096))
  unfold rect_Reduce.f
  rw [hv]
  simp only [Option.bind_some]
  cases v with
  | false => exact ⟨rt, Ev.neg (by simp) ht⟩
  | true =>
    by_cases c1 : x < 1
    · exact ⟨rt, Ev.pos rfl (Ev.pos c1 ht)⟩
    by_cases c2 : x > 4096
    · exact ⟨rt, Ev.pos rfl (Ev.neg c1 (Ev.pos c2 ht))⟩
    by_cases c3 : y < 1
    · exact ⟨rt, Ev.pos rfl (Ev.neg c1 (Ev.neg c2 (Ev.pos c3 ht)))⟩
    · exact ⟨rl, Ev.pos rfl (Ev.neg c1 (Ev.neg c2 (Ev.neg c3 hl)))⟩
theorem pwithin_l0 : ∀ (k : Nat) (lo hi : Int) (l : List Int) (n i : Int), params_within.l0 k lo hi l n i = headseg_within.l0 k lo hi l n i
  | 0, _, _, _, _, _ => rfl
  | k + 1, lo, hi, l, n, i => by rw [params_within.l0.eq_2, headseg_within.l0.eq_2, pwithin_l0 k]
theorem ev_pwithin (lo hi : Int) (l : List Int) (hl : l.length ≤ 9223372036854775807) : Ev (fun k => params_within.f k lo hi l) (inside lo hi l) :=
  Ev.congr (fun k => pwithin_l0 k lo hi l _ _) (ev_within lo hi l hl)
theorem rdC_at {s : List S97} (i : Nat) (hi : i < s.length) : rd_T97 s (i : Int) = s[i] := by
  unfold rd_T97
  rw [Int.toNat_natCast, List.getD_eq_getElem?_getD, List.getElem?_eq_getElem hi]
  rfl
def compOK (c : S97) : Prop := (1 ≤ c.f0 ∧ c.f0 ≤ 16) ∧ (1 ≤ c.f2 ∧ c.f2 ≤ 4) ∧ (1 ≤ c.f3 ∧ c.f3 ≤ 4)
theorem valid_true {a b c d : Int} (h : rect_Valid.f a b c d = some true) : (0 ≤ a ∧ a ≤ 4096) ∧ (0 ≤ b ∧ b ≤ 4096) ∧ (0 ≤ c ∧ c ≤ 4096) ∧ (0 ≤ d ∧ d ≤ 4096) := by
  unfold rect_Valid.f at h
  split at h
  · split at h
    · split at h
      · split at h
        · split at h
          · have := of_decide_eq_true (Option.some.inj h)
            omega
          · simp at h
        · simp at h
      · simp at h
    · simp at h
  · simp at h
theorem hdr_l1 (a b c d tw th : Int) (l : List S97) (hl : l.length ≤ 100000) (n : Nat) : ∀ i, i + n = l.length → ∃ r, Ev (fun k => params_Header.l1 k l (l.length : Int) (i : Int) a b c d tw th l) r := by
  induction n with
  | zero =>
    intro i hi
    exact ⟨0, Ev.step (fun k => params_Header.l1.eq_2 ..) (Ev.neg (by omega) (Ev.now _))⟩
  | succ n ih =>
    intro i hi
    have hw : wrap64 ((i : Int) + 1) = ((i + 1 : Nat) : Int) := by unfold wrap64; omega
    obtain ⟨⟨p, q, u, v⟩, hr⟩ := ev_reduce a b c d (rd_T97 l i).f2 (rd_T97 l i).f3
    obtain ⟨ar, ha⟩ := area_some p q u v
    obtain ⟨r, h1⟩ := ih (i + 1) (by omega)
    by_cases hc : ar > 1048576
    · refine ⟨5, Ev.step (fun k => params_Header.l1.eq_2 ..) (Ev.pos (by omega) (Ev.pos (by omega) (Ev.pos (by omega) (Ev.bind hr ?_))))⟩
      simp only [ha, Option.bind_some]; exact Ev.pos hc (Ev.now _)
    · refine ⟨r, Ev.step (fun k => params_Header.l1.eq_2 ..) (Ev.pos (by omega) (Ev.pos (by omega) (Ev.pos (by omega) (Ev.bind hr ?_))))⟩
      simp only [ha, Option.bind_some, hw]; exact Ev.neg hc h1
theorem hdr_l0 (a b c d tw th : Int) (l : List S97) (hl : l.length ≤ 100000) (n : Nat) : ∀ i, i + n = l.length → ∃ r, Ev (fun k => params_Header.l0 k l (l.length : Int) (i : Int) a b c d tw th l) r ∧ (r = 0 → ∀ x ∈ l.drop i, compOK x) := by
  induction n with
  | zero =>
    intro i hi
    have hn : ∀ x ∈ l.drop i, compOK x := by rw [List.drop_eq_nil_of_le (by omega)]; simp
    obtain ⟨r1, h1⟩ := ceil_some c tw
    obtain ⟨r2, h2⟩ := floor_some a tw
    obtain ⟨r3, h3⟩ := ceil_some d th
    obtain ⟨r4, h4⟩ := floor_some b th
    obtain ⟨r, q1⟩ := hdr_l1 a b c d tw th l hl l.length 0 (by omega)
    by_cases hc : (wrap64 ((wrap64 (r1 - r2)) * (wrap64 (r3 - r4)))) > 1024
    · refine ⟨5, Ev.step (fun k => params_Header.l0.eq_2 ..) (Ev.neg (by omega) ?_), fun _ => hn⟩
      simp only [h1, h2, h3, h4, Option.bind_some]; exact Ev.pos hc (Ev.now _)
    · refine ⟨r, Ev.step (fun k => params_Header.l0.eq_2 ..) (Ev.neg (by omega) ?_), fun _ => hn⟩
      simp only [h1, h2, h3, h4, Option.bind_some]; exact Ev.neg hc q1
  | succ n ih =>
    intro i hi
    have hlt : i < l.length := by omega
    have hw : wrap64 ((i : Int) + 1) = ((i + 1 : Nat) : Int) := by unfold wrap64; omega
    obtain ⟨⟨p, q, u, v⟩, hr⟩ := ev_reduce a b c d (rd_T97 l i).f2 (rd_T97 l i).f3
    obtain ⟨em, he⟩ := empty_some p q u v
    obtain ⟨r, h1, h1n⟩ := ih (i + 1) (by omega)
    have w1 := ev_pwithin 1 16 [(rd_T97 l i).f0] (by simp)
    have w2 := ev_pwithin 1 4 [(rd_T97 l i).f2, (rd_T97 l i).f3] (by simp)
    have e1 : inside 1 16 [(rd_T97 l i).f0] = true → (1 ≤ (rd_T97 l i).f0 ∧ (rd_T97 l i).f0 ≤ 16) := by simp [inside]
    have e2 : inside 1 4 [(rd_T97 l i).f2, (rd_T97 l i).f3] = true → ((1 ≤ (rd_T97 l i).f2 ∧ (rd_T97 l i).f2 ≤ 4) ∧ (1 ≤ (rd_T97 l i).f3 ∧ (rd_T97 l i).f3 ≤ 4)) := by
      intro h; simp [inside] at h; omega
    have hgo : inside 1 16 [(rd_T97 l i).f0] = true → inside 1 4 [(rd_T97 l i).f2, (rd_T97 l i).f3] = true → r = 0 → ∀ x ∈ l.drop i, compOK x := by
      intro g1 g2 g3 x hx
      rw [List.drop_eq_getElem_cons hlt] at hx
      rcases List.mem_cons.1 hx with rfl | hx
      · have := e1 g1
        have := e2 g2
        rw [rdC_at i hlt] at *
        unfold compOK
        omega
      · exact h1n g3 x hx
    generalize inside 1 16 [(rd_T97 l i).f0] = b1 at w1 hgo
    generalize inside 1 4 [(rd_T97 l i).f2, (rd_T97 l i).f3] = b2 at w2 hgo
    suffices hh : ∃ r, Ev (fun k => (params_within.f k 1 16 (([(rd_T97 l i).f0] : List Int))).bind fun t777 => (if t777 = true then ((params_within.f k 1 4 (([(rd_T97 l i).f2, (rd_T97 l i).f3] : List Int))).bind fun t781 => (if t781 = true then ((rect_Reduce.f k a b c d ((rd_T97 l i).f2) ((rd_T97 l i).f3)).bind fun bt782 => ((rect_Empty.f bt782.1 bt782.2.1 bt782.2.2.1 bt782.2.2.2).bind fun t786 => (if t786 = true then (some 12) else (params_Header.l0 k l (l.length : Int) (wrap64 ((i : Int) + 1)) a b c d tw th l)))) else (some 12))) else (some 12))) r ∧ (r = 0 → ∀ x ∈ l.drop i, compOK x) by
      obtain ⟨r, h1, h2⟩ := hh
      exact ⟨r, Ev.step (fun k => params_Header.l0.eq_2 ..) (Ev.pos (by omega) (Ev.pos (by omega) (Ev.pos (by omega) h1))), h2⟩
    rw [hw]
    cases b1 with
    | false => exact ⟨12, Ev.bind w1 (Ev.neg (by simp) (Ev.now _)), by simp⟩
    | true =>
    cases b2 with
    | false => exact ⟨12, Ev.bind w1 (Ev.pos rfl (Ev.bind w2 (Ev.neg (by simp) (Ev.now _)))), by simp⟩
    | true =>
    cases em with
    | true =>
      refine ⟨12, Ev.bind w1 (Ev.pos rfl (Ev.bind w2 (Ev.pos rfl (Ev.bind hr ?_)))), by simp⟩
      simp only [he, Option.bind_some]; exact Ev.pos trivial (Ev.now _)
    | false =>
      refine ⟨r, Ev.bind w1 (Ev.pos rfl (Ev.bind w2 (Ev.pos rfl (Ev.bind hr ?_)))), hgo rfl rfl⟩
      simp only [he, Option.bind_some]; exact Ev.neg (by simp) h1
def hdrOK (a b c d tw th : Int) (l : List S97) : Prop := ((0 ≤ a ∧ a ≤ 4096) ∧ (0 ≤ b ∧ b ≤ 4096) ∧ (0 ≤ c ∧ c ≤ 4096) ∧ (0 ≤ d ∧ d ≤ 4096)) ∧ ((1 ≤ tw ∧ tw ≤ 4096) ∧ (1 ≤ th ∧ th ≤ 4096)) ∧ l.length ≤ 4 ∧ ∀ x ∈ l, compOK x
theorem hdr_ev (a b c d tw th : Int) (l : List S97) (hl : l.length ≤ 100000) : ∃ r, Ev (fun k => params_Header.f k a b c d tw th l) r ∧ (r = 0 → hdrOK a b c d tw th l) := by
  have ht : Ev (fun k => params_Header.j0 k true a b c d tw th l) 12 := Ev.step (fun k => params_Header.j0.eq_2 ..) (Ev.pos rfl (Ev.now _))
  obtain ⟨r0, h0, h0n⟩ := hdr_l0 a b c d tw th l hl l.length 0 (by omega)
  have hf : Ev (fun k => params_Header.j0 k false a b c d tw th l) r0 := Ev.step (fun k => params_Header.j0.eq_2 ..) (Ev.neg (by simp) h0)
  obtain ⟨v, hv⟩ := valid_some a b c d
  obtain ⟨em, he⟩ := empty_some a b c d
  have w1 := ev_pwithin 1 4096 [tw, th] (by simp)
  have w2 := ev_pwithin 1 4 [(l.length : Int)] (by simp)
  have e1 : inside 1 4096 [tw, th] = true → ((1 ≤ tw ∧ tw ≤ 4096) ∧ (1 ≤ th ∧ th ≤ 4096)) := by intro h; simp [inside] at h; omega
  have e2 : inside 1 4 [(l.length : Int)] = true → l.length ≤ 4 := by intro h; simp [inside] at h; omega
  generalize inside 1 4096 [tw, th] = b1 at w1 e1
  generalize inside 1 4 [(l.length : Int)] = b2 at w2 e2
  unfold params_Header.f
  simp only [hv, he, Option.bind_some]
  cases v with
  | false => exact ⟨12, Ev.neg (by simp) ht, by simp⟩
  | true =>
  cases em with
  | true => exact ⟨12, Ev.pos rfl (Ev.pos rfl ht), by simp⟩
  | false =>
  cases b1 with
  | false => exact ⟨12, Ev.pos rfl (Ev.neg (by simp) (Ev.bind w1 (Ev.neg (by simp) ht))), by simp⟩
  | true =>
  cases b2 with
  | false => exact ⟨12, Ev.pos rfl (Ev.neg (by simp) (Ev.bind w1 (Ev.pos rfl (Ev.bind w2 ht)))), by simp⟩
  | true => exact ⟨r0, Ev.pos rfl (Ev.neg (by simp) (Ev.bind w1 (Ev.pos rfl (Ev.bind w2 hf)))), fun h => ⟨valid_true hv, e1 rfl, e2 rfl, by simpa using h0n h⟩⟩
/-- The bytes of a component. -/
def encC (c : S97) : List Int := [(if c.f1 = true then wrap64 (wrap64 (c.f0 - 1) + 128) else wrap64 (c.f0 - 1)) % 256, c.f2 % 256, c.f3 % 256]
def encCs : List S97 → List Int
  | [] => []
  | c :: l => encC c ++ encCs l
theorem encCs_length : ∀ l, (encCs l).length = 3 * l.length
  | [] => rfl
  | c :: l => by simp [encCs, encC, encCs_length l]; omega
def enc2 : List Int → List Int
  | [] => []
  | v :: l => be v 2 ++ enc2 l
theorem enc2_length : ∀ l : List Int, (enc2 l).length = 2 * l.length
  | [] => rfl
  | v :: l => by simp [enc2, be_length, enc2_length l]; omega
theorem size_l1 (l : List S97) (hl : l.length ≤ 100000) (n : Nat) : ∀ (i : Nat) (acc : List Int), i + n = l.length → acc.length ≤ 1000 + 3 * i → Ev (fun k => headseg_Size.l1 k acc l (l.length : Int) (i : Int)) (65441, acc ++ encCs (l.drop i), 0) := by
  induction n with
  | zero =>
    intro i acc hi ha
    rw [List.drop_eq_nil_of_le (by omega)]
    exact Ev.step (fun k => headseg_Size.l1.eq_2 ..) (Ev.neg (by omega) (by simpa [encCs] using Ev.now ((65441 : Int), acc, (0 : Int))))
  | succ n ih =>
    intro i acc hi ha
    have hlt : i < l.length := by omega
    have hw : wrap64 ((i : Int) + 1) = ((i + 1 : Nat) : Int) := by unfold wrap64; omega
    refine Ev.step (fun k => headseg_Size.l1.eq_2 ..) (Ev.pos (by omega) (Ev.pos (by omega) (Ev.pos (by omega) ?_)))
    rw [rdC_at i hlt, hw, List.drop_eq_getElem_cons hlt]
    have := ih (i + 1) (acc ++ encC l[i]) (by omega) (by simp [encC]; omega)
    by_cases hs : l[i].f1 = true
    · refine Ev.pos hs ?_
      simp only [Option.bind_some]
      refine Ev.pos (by simp; omega) ?_
      simpa [encCs, encC, hs] using this
    · refine Ev.neg hs ?_
      simp only [Option.bind_some]
      refine Ev.pos (by simp; omega) ?_
      simpa [encCs, encC, hs] using this
theorem size_l0 (a b c d tw th : Int) (l : List S97) (hl : l.length ≤ 100000) (m : List Int) (hm : m.length ≤ 10) (n : Nat) : ∀ (i : Nat) (acc : List Int), i + n = m.length → acc.length ≤ 2 * i → Ev (fun k => headseg_Size.l0 k acc m (m.length : Int) (i : Int) a b c d tw th l) (65441, acc ++ enc2 (m.drop i) ++ be (l.length : Int) 1 ++ encCs l, 0) := by
  induction n with
  | zero =>
    intro i acc hi ha
    rw [List.drop_eq_nil_of_le (by omega)]
    refine Ev.step (fun k => headseg_Size.l0.eq_2 ..) (Ev.neg (by omega) (Ev.bind (ev_put acc _ 1 (by omega) (by omega)) ?_))
    have := size_l1 l hl l.length 0 (acc ++ be (l.length : Int) 1) (by omega) (by simp [be_length]; omega)
    simpa [enc2] using this
  | succ n ih =>
    intro i acc hi ha
    have hlt : i < m.length := by omega
    refine Ev.step (fun k => headseg_Size.l0.eq_2 ..) (Ev.pos (by omega) (Ev.pos (by omega) (Ev.pos (by omega) (Ev.bind (ev_put acc _ 2 (by omega) (by omega)) ?_))))
    rw [show wrap64 ((i : Int) + 1) = ((i + 1 : Nat) : Int) by unfold wrap64; omega, rd_at i hlt, List.drop_eq_getElem_cons hlt]
    have := ih (i + 1) (acc ++ be m[i] 2) (by omega) (by simp [be_length]; omega)
    simpa [enc2] using this
/-- The bytes of a header. -/
def SizeB (a b c d tw th : Int) (l : List S97) : List Int := enc2 [a, b, c, d, tw, th] ++ be (l.length : Int) 1 ++ encCs l
def SizeF (r a b c d tw th : Int) (l : List S97) : Int × List Int × Int := if r = 0 then (65441, SizeB a b c d tw th l, 0) else (0, [], r)
theorem size_ev (a b c d tw th : Int) (l : List S97) (hl : l.length ≤ 100000) {r : Int} (h : Ev (fun k => params_Header.f k a b c d tw th l) r) : Ev (fun k => headseg_Size.f k a b c d tw th l) (SizeF r a b c d tw th l) := by
  refine Ev.congr (fun k => headseg_Size.f.eq_1 ..) (Ev.bind h ?_)
  unfold SizeF
  by_cases hr : r = 0
  · rw [if_pos hr]
    refine Ev.pos hr ?_
    have := size_l0 a b c d tw th l hl [a, b, c, d, tw, th] (by simp) 6 0 [] (by simp) (by simp)
    simpa [SizeB] using this
  · rw [if_neg hr]
    exact Ev.neg hr (Ev.now _)
theorem SizeF_length (r a b c d tw th : Int) (l : List S97) (hl : l.length ≤ 100000) : (SizeF r a b c d tw th l).2.1.length ≤ 1000000 := by
  unfold SizeF
  split
  · simp [SizeB, enc2, be_length, encCs_length]; omega
  · simp

/-! ### ParseSize -/
theorem and127 : ∀ b : Fin 256, Go.bits .and .i64 ((b.val : Nat) : Int) 127 = ((b.val % 128 : Nat) : Int) := by decide +kernel
/-- The component that lies at a place. -/
def compAt (l : List Int) (p : Nat) : S97 := ⟨l.getD p 0 % 128 + 1, decide (l.getD p 0 ≥ 128), l.getD (p + 1) 0, l.getD (p + 2) 0⟩
def compsAt (l : List Int) : Nat → Nat → List S97
  | _, 0 => []
  | p, n + 1 => compAt l p :: compsAt l (p + 3) n
theorem compsAt_length (l : List Int) : ∀ n p, (compsAt l p n).length = n
  | 0, p => rfl
  | n + 1, p => by simp [compsAt, compsAt_length l n]
theorem comp_our {b x y : Int} (h0 : 0 ≤ b) (h1 : b ≤ 255) : (⟨wrap64 (Go.bits .and .i64 b 127 + 1), decide (b ≥ 128), x, y⟩ : S97) = ⟨b % 128 + 1, decide (b ≥ 128), x, y⟩ := by
  have h := and127 ⟨b.toNat, by omega⟩
  simp only [show ((b.toNat : Nat) : Int) = b by omega] at h
  rw [h, show wrap64 (((b.toNat % 128 : Nat) : Int) + 1) = b % 128 + 1 by unfold wrap64; omega]
theorem sizeLoop_in {l : List Int} (hb : ∀ x ∈ l, (Lit.int .u8 x).wf = true) (hl : l.length ≤ 1000000) (n : Nat) : ∀ (p : Nat) (xs : List S97), p + 3 * n ≤ l.length → xs.length ≤ p → Ev (fun k => sizeLoop k l (p : Int) (n : Int) xs) (0, xs ++ compsAt l p n, ((p + 3 * n : Nat) : Int)) := by
  induction n with
  | zero =>
    intro p xs hp hx
    refine Ev.step (fun k => sizeLoop.eq_2 ..) (Ev.neg (by omega) ?_)
    simpa [compsAt] using Ev.now ((0 : Int), xs, (p : Int))
  | succ n ih =>
    intro p xs hp hx
    have e1 : wrap64 ((p : Int) + 1) = ((p + 1 : Nat) : Int) := by unfold wrap64; omega
    have e2 : wrap64 (((p + 1 : Nat) : Int) + 1) = ((p + 2 : Nat) : Int) := by unfold wrap64; omega
    have e3 : wrap64 (((p + 2 : Nat) : Int) + 1) = ((p + 3 : Nat) : Int) := by unfold wrap64; omega
    have e4 : wrap64 (((n + 1 : Nat) : Int) - 1) = (n : Int) := by unfold wrap64; omega
    have r1 := ev_in l hl p 1 (by omega) (by omega) (by omega)
    have r2 := ev_in l hl (p + 1) 1 (by omega) (by omega) (by omega)
    have r3 := ev_in l hl (p + 2) 1 (by omega) (by omega) (by omega)
    rw [num_one hb p (by omega)] at r1
    rw [num_one hb (p + 1) (by omega)] at r2
    rw [num_one hb (p + 2) (by omega)] at r3
    obtain ⟨b0, b1⟩ := wf_u8 (hb _ (List.getElem_mem (show p < l.length by omega)))
    have hc : (⟨wrap64 (Go.bits .and .i64 l[p] 127 + 1), decide (l[p] ≥ 128), l[p + 1], l[p + 2]⟩ : S97) = compAt l p := by
      rw [comp_our b0 b1]
      unfold compAt
      rw [getD_at p (by omega), getD_at (p + 1) (by omega), getD_at (p + 2) (by omega)]
    have := ih (p + 3) (xs ++ [compAt l p]) (by omega) (by simp; omega)
    refine Ev.step (fun k => sizeLoop.eq_2 ..) (Ev.pos (by omega) (Ev.pos (by omega) (ev_rdn r1 ?_)))
    rw [e1, e2, e3, e4]
    refine ev_rdn r2 (ev_rdn r3 ?_)
    rw [hc]
    simpa [compsAt, show p + 3 + 3 * n = p + 3 * (n + 1) by omega] using this
theorem sizeLoop_out {l : List Int} (hl : l.length ≤ 1000000) (n : Nat) : ∀ (p : Nat) (xs : List S97), p ≤ l.length → l.length < p + 3 * n → xs.length ≤ p → n ≤ 1000000 → Ev (fun k => sizeLoop k l (p : Int) (n : Int) xs) (7, [], 0) := by
  induction n with
  | zero =>
    intro p xs hp hq hx hn1
    omega
  | succ n ih =>
    intro p xs hp hq hx hn1
    have e1 : wrap64 ((p : Int) + 1) = ((p + 1 : Nat) : Int) := by unfold wrap64; omega
    have e2 : wrap64 (((p + 1 : Nat) : Int) + 1) = ((p + 2 : Nat) : Int) := by unfold wrap64; omega
    have e3 : wrap64 (((p + 2 : Nat) : Int) + 1) = ((p + 3 : Nat) : Int) := by unfold wrap64; omega
    have e4 : wrap64 (((n + 1 : Nat) : Int) - 1) = (n : Int) := by unfold wrap64; omega
    refine Ev.step (fun k => sizeLoop.eq_2 ..) (Ev.pos (by omega) (Ev.pos (by omega) ?_))
    rw [e1, e2, e3, e4]
    by_cases c1 : p + 1 ≤ l.length
    rotate_left
    · exact ev_rdn_bad (by omega) (ev_out l hl p 1 (by omega) (by omega) hp (by omega))
    refine ev_rdn (ev_in l hl p 1 (by omega) (by omega) c1) ?_
    by_cases c2 : p + 2 ≤ l.length
    rotate_left
    · exact ev_rdn_bad (by omega) (ev_out l hl (p + 1) 1 (by omega) (by omega) (by omega) (by omega))
    refine ev_rdn (ev_in l hl (p + 1) 1 (by omega) (by omega) c2) ?_
    by_cases c3 : p + 3 ≤ l.length
    rotate_left
    · exact ev_rdn_bad (by omega) (ev_out l hl (p + 2) 1 (by omega) (by omega) (by omega) (by omega))
    refine ev_rdn (ev_in l hl (p + 2) 1 (by omega) (by omega) c3) ?_
    exact ih (p + 3) _ c3 (by omega) (by simp; omega) (by omega)
/-- The number of components. -/
def cnt (l : List Int) : Nat := (l.getD 12 0).toNat
def head6 (l : List Int) : Int × Int × Int × Int × Int × Int := (num (sub l 0 2), num (sub l 2 2), num (sub l 4 2), num (sub l 6 2), num (sub l 8 2), num (sub l 10 2))
theorem sizeRead_ev {l : List Int} (hb : ∀ x ∈ l, (Lit.int .u8 x).wf = true) (hl : l.length ≤ 1000000) :
    Ev (fun k => sizeRead k l) (if 13 ≤ l.length ∧ 13 + 3 * cnt l ≤ l.length then (0, (head6 l).1, (head6 l).2.1, (head6 l).2.2.1, (head6 l).2.2.2.1, (head6 l).2.2.2.2.1, (head6 l).2.2.2.2.2, compsAt l 13 (cnt l), ((13 + 3 * cnt l : Nat) : Int)) else badSize 7) := by
  unfold sizeRead
  by_cases c0 : 2 ≤ l.length
  rotate_left
  · rw [if_neg (by omega)]; exact ev_rdn_bad (by omega) (ev_out l hl 0 2 (by omega) (by omega) (by omega) (by omega))
  refine ev_rdn (ev_in l hl 0 2 (by omega) (by omega) c0) ?_
  by_cases c1 : 4 ≤ l.length
  rotate_left
  · rw [if_neg (by omega)]; exact ev_rdn_bad (by omega) (ev_out l hl 2 2 (by omega) (by omega) (by omega) (by omega))
  refine ev_rdn (ev_in l hl 2 2 (by omega) (by omega) c1) ?_
  by_cases c2 : 6 ≤ l.length
  rotate_left
  · rw [if_neg (by omega)]; exact ev_rdn_bad (by omega) (ev_out l hl 4 2 (by omega) (by omega) (by omega) (by omega))
  refine ev_rdn (ev_in l hl 4 2 (by omega) (by omega) c2) ?_
  by_cases c3 : 8 ≤ l.length
  rotate_left
  · rw [if_neg (by omega)]; exact ev_rdn_bad (by omega) (ev_out l hl 6 2 (by omega) (by omega) (by omega) (by omega))
  refine ev_rdn (ev_in l hl 6 2 (by omega) (by omega) c3) ?_
  by_cases c4 : 10 ≤ l.length
  rotate_left
  · rw [if_neg (by omega)]; exact ev_rdn_bad (by omega) (ev_out l hl 8 2 (by omega) (by omega) (by omega) (by omega))
  refine ev_rdn (ev_in l hl 8 2 (by omega) (by omega) c4) ?_
  by_cases c5 : 12 ≤ l.length
  rotate_left
  · rw [if_neg (by omega)]; exact ev_rdn_bad (by omega) (ev_out l hl 10 2 (by omega) (by omega) (by omega) (by omega))
  refine ev_rdn (ev_in l hl 10 2 (by omega) (by omega) c5) ?_
  by_cases c6 : 13 ≤ l.length
  rotate_left
  · rw [if_neg (by omega)]; exact ev_rdn_bad (by omega) (ev_out l hl 12 1 (by omega) (by omega) (by omega) (by omega))
  have r := ev_in l hl 12 1 (by omega) (by omega) c6
  obtain ⟨b0, b1⟩ := wf_u8 (hb _ (List.getElem_mem (show 12 < l.length by omega)))
  have hn : num (sub l 12 1) = (cnt l : Int) := by
    rw [num_one hb 12 (by omega)]
    unfold cnt
    rw [getD_at 12 (by omega)]
    omega
  rw [hn] at r
  refine ev_rdn r ?_
  by_cases c7 : 13 + 3 * cnt l ≤ l.length
  · rw [if_pos ⟨c6, c7⟩]
    have := sizeLoop_in hb hl (cnt l) 13 [] c7 (by simp)
    exact Ev.bind this (by simpa [head6] using Ev.now _)
  · rw [if_neg (by omega)]
    have hcn : cnt l ≤ 255 := by unfold cnt; rw [getD_at 12 (by omega)]; omega
    have := sizeLoop_out hl (cnt l) 13 [] c6 (by omega) (by simp) (by omega)
    exact Ev.bind this (by simpa using Ev.now (badSize 7))

def zeroH (e : Int) : Int × Int × Int × Int × Int × Int × List S97 × Int := (0, 0, 0, 0, 0, 0, [], e)
/-- What ParseSize returns, r the answer of the header's check. -/
def PSizeF (r c : Int) (l : List Int) : Int × Int × Int × Int × Int × Int × List S97 × Int :=
  if c = 65441 then (if 13 ≤ l.length ∧ 13 + 3 * cnt l ≤ l.length then (if 13 + 3 * cnt l < l.length then zeroH 9 else if r = 0 then ((head6 l).1, (head6 l).2.1, (head6 l).2.2.1, (head6 l).2.2.2.1, (head6 l).2.2.2.2.1, (head6 l).2.2.2.2.2, compsAt l 13 (cnt l), 0) else zeroH r) else zeroH 7) else zeroH 11
theorem cnt_le {l : List Int} (hb : ∀ x ∈ l, (Lit.int .u8 x).wf = true) (h : 13 ≤ l.length) : cnt l ≤ 255 ∧ l[12] = (cnt l : Int) := by
  obtain ⟨b0, b1⟩ := wf_u8 (hb _ (List.getElem_mem (show 12 < l.length by omega)))
  unfold cnt
  rw [getD_at 12 (by omega)]
  omega
theorem psize_ev {l : List Int} (hb : ∀ x ∈ l, (Lit.int .u8 x).wf = true) (hl : l.length ≤ 1000000) (c : Int) {r : Int} (h : Ev (fun k => params_Header.f k (head6 l).1 (head6 l).2.1 (head6 l).2.2.1 (head6 l).2.2.2.1 (head6 l).2.2.2.2.1 (head6 l).2.2.2.2.2 (compsAt l 13 (cnt l))) r) :
    Ev (fun k => headseg_ParseSize.f k c l) (PSizeF r c l) := by
  refine Ev.congr (fun k => headseg_ParseSize.f.eq_1 ..) (Ev.bind (sizeRead_ev hb hl) ?_)
  unfold PSizeF
  by_cases hc : c = 65441
  · rw [if_pos hc]
    refine Ev.pos hc ?_
    by_cases h1 : 13 ≤ l.length ∧ 13 + 3 * cnt l ≤ l.length
    · rw [if_pos h1, if_pos h1]
      refine Ev.pos rfl ?_
      by_cases h2 : 13 + 3 * cnt l < l.length
      · rw [if_pos h2]
        exact Ev.pos (show ((13 + 3 * cnt l : Nat) : Int) < (l.length : Int) by omega) (Ev.now _)
      · rw [if_neg h2]
        refine Ev.neg (show ¬ ((13 + 3 * cnt l : Nat) : Int) < (l.length : Int) by omega) (Ev.bind h ?_)
        by_cases h3 : r = 0
        · rw [if_pos h3, if_pos h3]; exact Ev.now _
        · rw [if_neg h3, if_neg h3]; exact Ev.now _
    · rw [if_neg h1, if_neg h1]
      exact Ev.neg (by simp [badSize]) (Ev.now _)
  · rw [if_neg hc]
    exact Ev.neg hc (Ev.now _)
theorem PSizeF_comps (r c : Int) {l : List Int} (hb : ∀ x ∈ l, (Lit.int .u8 x).wf = true) : (PSizeF r c l).2.2.2.2.2.2.1.length ≤ 100000 := by
  unfold PSizeF
  split
  · split
    · split
      · simp [zeroH]
      · split
        · rename_i h _ _
          have := (cnt_le hb h.1).1
          simp only [compsAt_length]
          omega
        · simp [zeroH]
    · simp [zeroH]
  · simp [zeroH]
/-- The bytes of the steps. -/
def encS : List Int → List Int
  | [] => []
  | x :: l => be (wrap64 (x - 1)) 2 ++ encS l
theorem encS_length : ∀ l, (encS l).length = 2 * l.length
  | [] => rfl
  | x :: l => by simp [encS, be_length, encS_length l]; omega
theorem quant_l0 (s : List Int) (hl : s.length ≤ 100000) (n : Nat) : ∀ (i : Nat) (acc : List Int), i + n = s.length → acc.length ≤ 1000 + 2 * i → Ev (fun k => headseg_Quant.l0 k acc s (s.length : Int) (i : Int)) (65443, acc ++ encS (s.drop i), 0) := by
  induction n with
  | zero =>
    intro i acc hi ha
    rw [List.drop_eq_nil_of_le (by omega)]
    exact Ev.step (fun k => headseg_Quant.l0.eq_2 ..) (Ev.neg (by omega) (by simpa [encS] using Ev.now ((65443 : Int), acc, (0 : Int))))
  | succ n ih =>
    intro i acc hi ha
    have hlt : i < s.length := by omega
    have hw : wrap64 ((i : Int) + 1) = ((i + 1 : Nat) : Int) := by unfold wrap64; omega
    refine Ev.step (fun k => headseg_Quant.l0.eq_2 ..) (Ev.pos (by omega) (Ev.pos (by omega) (Ev.pos (by omega) ?_)))
    rw [rd_at i hlt, hw, List.drop_eq_getElem_cons hlt]
    have := ih (i + 1) (acc ++ be (wrap64 (s[i] - 1)) 2) (by omega) (by simp [be_length]; omega)
    exact Ev.bind (ev_put acc _ 2 (by omega) (by omega)) (by simpa [encS] using this)
def QuantF (dd : Int) (s : List Int) : Int × List Int × Int :=
  if (0 ≤ dd ∧ dd ≤ 255) ∧ s.length ≤ 255 ∧ inside 1 65536 s = true then (65443, be dd 1 ++ be (s.length : Int) 1 ++ encS s, 0) else (0, [], 2)
theorem QuantF_length (dd : Int) (s : List Int) : (QuantF dd s).2.1.length ≤ 1000 := by
  unfold QuantF
  split
  · simp [be_length, encS_length]; omega
  · simp
theorem quant_ev (p0 : Int) (p1 : Int) (p2 : Int) (p3 : Int) (p4 : Int) (t : List S89) (p6 : Int) (p7 : Int) (p8 : Bool) (p9 : Bool) (p10 : Bool) (p11 : Bool) (p12 : Bool) (p13 : Bool) (p14 : Bool) (p15 : Bool) (s : List Int) (dd : Int) (p18 : Int) (hl : s.length ≤ 300) : Ev (fun k => headseg_Quant.f k p0 p1 p2 p3 p4 t p6 p7 p8 p9 p10 p11 p12 p13 p14 p15 s dd p18) (QuantF dd s) := by
  refine Ev.congr (fun k => headseg_Quant.f.eq_1 ..) (Ev.bind (ev_within 0 255 [dd, (s.length : Int)] (by simp)) ?_)
  unfold QuantF
  by_cases h1 : inside 0 255 [dd, (s.length : Int)] = true
  · refine Ev.pos h1 (Ev.bind (ev_within 1 65536 s (by omega)) (Ev.step (fun k => headseg_Quant.j0.eq_2 ..) ?_))
    have h1' : (0 ≤ dd ∧ dd ≤ 255) ∧ s.length ≤ 255 := by
      simp [inside] at h1
      omega
    by_cases h2 : inside 1 65536 s = true
    · rw [if_pos ⟨h1'.1, h1'.2, h2⟩]
      refine Ev.neg (by simp [h2]) ?_
      have := quant_l0 s (by omega) s.length 0 [dd % 256, (s.length : Int) % 256] (by omega) (by simp)
      simpa [be] using this
    · rw [if_neg (fun h => h2 h.2.2)]
      exact Ev.pos (by simp [h2]) (Ev.now _)
  · rw [if_neg (fun h => h1 (by simp [inside]; omega))]
    exact Ev.neg h1 (Ev.step (fun k => headseg_Quant.j0.eq_2 ..) (Ev.pos rfl (Ev.now _)))
/-- The steps of a segment. -/
def stepsAt (l : List Int) : Nat → Nat → List Int
  | _, 0 => []
  | p, n + 1 => wrap64 (num (sub l p 2) + 1) :: stepsAt l (p + 2) n
theorem stepsAt_length (l : List Int) : ∀ n p, (stepsAt l p n).length = n
  | 0, _ => rfl
  | n + 1, p => by simp [stepsAt, stepsAt_length l n]
theorem quantLoop_in {l : List Int} (hl : l.length ≤ 1000000) (n : Nat) : ∀ (p : Nat) (xs : List Int), p + 2 * n ≤ l.length → xs.length ≤ p → Ev (fun k => quantLoop k l (p : Int) (n : Int) xs) (0, xs ++ stepsAt l p n, ((p + 2 * n : Nat) : Int)) := by
  induction n with
  | zero =>
    intro p xs hp hx
    refine Ev.step (fun k => quantLoop.eq_2 ..) (Ev.neg (by omega) ?_)
    simpa [stepsAt] using Ev.now ((0 : Int), xs, (p : Int))
  | succ n ih =>
    intro p xs hp hx
    have e2 : wrap64 ((p : Int) + 2) = ((p + 2 : Nat) : Int) := by unfold wrap64; omega
    have e4 : wrap64 (((n + 1 : Nat) : Int) - 1) = (n : Int) := by unfold wrap64; omega
    have := ih (p + 2) (xs ++ [wrap64 (num (sub l p 2) + 1)]) (by omega) (by simp; omega)
    refine Ev.step (fun k => quantLoop.eq_2 ..) (Ev.pos (by omega) (Ev.pos (by omega) (ev_rdn (ev_in l hl p 2 (by omega) (by omega) (by omega)) ?_)))
    rw [e2, e4]
    simpa [stepsAt, show p + 2 + 2 * n = p + 2 * (n + 1) by omega] using this
theorem quantLoop_out {l : List Int} (hl : l.length ≤ 1000000) (n : Nat) : ∀ (p : Nat) (xs : List Int), p ≤ l.length → l.length < p + 2 * n → xs.length ≤ p → n ≤ 1000000 → Ev (fun k => quantLoop k l (p : Int) (n : Int) xs) (7, [], 0) := by
  induction n with
  | zero =>
    intro p xs hp hq hx hn1
    omega
  | succ n ih =>
    intro p xs hp hq hx hn1
    have e2 : wrap64 ((p : Int) + 2) = ((p + 2 : Nat) : Int) := by unfold wrap64; omega
    have e4 : wrap64 (((n + 1 : Nat) : Int) - 1) = (n : Int) := by unfold wrap64; omega
    refine Ev.step (fun k => quantLoop.eq_2 ..) (Ev.pos (by omega) (Ev.pos (by omega) ?_))
    rw [e2, e4]
    by_cases c1 : p + 2 ≤ l.length
    rotate_left
    · exact ev_rdn_bad (by omega) (ev_out l hl p 2 (by omega) (by omega) hp (by omega))
    refine ev_rdn (ev_in l hl p 2 (by omega) (by omega) c1) ?_
    exact ih (p + 2) _ c1 (by omega) (by simp; omega) (by omega)
/-- The number of steps. -/
def cntQ (l : List Int) : Nat := (l.getD 1 0).toNat
theorem cntQ_le {l : List Int} (hb : ∀ x ∈ l, (Lit.int .u8 x).wf = true) (h : 2 ≤ l.length) : cntQ l ≤ 255 ∧ l[1] = (cntQ l : Int) := by
  obtain ⟨b0, b1⟩ := wf_u8 (hb _ (List.getElem_mem (show 1 < l.length by omega)))
  unfold cntQ
  rw [getD_at 1 (by omega)]
  omega
theorem quantRead_ev {l : List Int} (hb : ∀ x ∈ l, (Lit.int .u8 x).wf = true) (hl : l.length ≤ 1000000) :
    Ev (fun k => quantRead k l) (if 2 ≤ l.length ∧ 2 + 2 * cntQ l ≤ l.length then (0, l.getD 0 0, stepsAt l 2 (cntQ l), ((2 + 2 * cntQ l : Nat) : Int)) else badQuant 7) := by
  unfold quantRead
  by_cases c0 : 1 ≤ l.length
  rotate_left
  · rw [if_neg (by omega)]; exact ev_rdn_bad (by omega) (ev_out l hl 0 1 (by omega) (by omega) (by omega) (by omega))
  have r0 := ev_in l hl 0 1 (by omega) (by omega) c0
  rw [num_one hb 0 (by omega)] at r0
  refine ev_rdn r0 ?_
  by_cases c1 : 2 ≤ l.length
  rotate_left
  · rw [if_neg (by omega)]; exact ev_rdn_bad (by omega) (ev_out l hl 1 1 (by omega) (by omega) (by omega) (by omega))
  have r := ev_in l hl 1 1 (by omega) (by omega) c1
  obtain ⟨hcn, h12⟩ := cntQ_le hb c1
  rw [num_one hb 1 (by omega), h12] at r
  refine ev_rdn r ?_
  by_cases c7 : 2 + 2 * cntQ l ≤ l.length
  · rw [if_pos ⟨c1, c7⟩, getD_at 0 (by omega)]
    have := quantLoop_in hl (cntQ l) 2 [] c7 (by simp)
    exact Ev.bind this (by simpa using Ev.now _)
  · rw [if_neg (by omega)]
    have := quantLoop_out hl (cntQ l) 2 [] c1 (by omega) (by simp) (by omega)
    exact Ev.bind this (by simpa using Ev.now (badQuant 7))
def zeroP (e : Int) : Int × Int × Int × Int × Int × List S89 × Int × Int × Bool × Bool × Bool × Bool × Bool × Bool × Bool × Bool × List Int × Int × Int × Int := (0, 0, 0, 0, 0, [], 0, 0, false, false, false, false, false, false, false, false, [], 0, 0, e)
def PQuantF (c : Int) (l : List Int) (p0 : Int) (p1 : Int) (p2 : Int) (p3 : Int) (p4 : Int) (t : List S89) (p6 : Int) (p7 : Int) (p8 : Bool) (p9 : Bool) (p10 : Bool) (p11 : Bool) (p12 : Bool) (p13 : Bool) (p14 : Bool) (p15 : Bool) (s : List Int) (dd : Int) (p18 : Int) : Int × Int × Int × Int × Int × List S89 × Int × Int × Bool × Bool × Bool × Bool × Bool × Bool × Bool × Bool × List Int × Int × Int × Int :=
  if c = 65443 then (if 2 ≤ l.length ∧ 2 + 2 * cntQ l ≤ l.length then (if 2 + 2 * cntQ l < l.length then zeroP 9 else (p0, p1, p2, p3, p4, t, p6, p7, p8, p9, p10, p11, p12, p13, p14, p15, stepsAt l 2 (cntQ l), l.getD 0 0, p18, 0)) else zeroP 7) else zeroP 11
theorem pquant_ev {l : List Int} (hb : ∀ x ∈ l, (Lit.int .u8 x).wf = true) (hl : l.length ≤ 1000000) (c : Int) (p0 : Int) (p1 : Int) (p2 : Int) (p3 : Int) (p4 : Int) (t : List S89) (p6 : Int) (p7 : Int) (p8 : Bool) (p9 : Bool) (p10 : Bool) (p11 : Bool) (p12 : Bool) (p13 : Bool) (p14 : Bool) (p15 : Bool) (s : List Int) (dd : Int) (p18 : Int) (hs : s.length ≤ 300) (ht : t.length ≤ 300) : Ev (fun k => headseg_ParseQuant.f k c l p0 p1 p2 p3 p4 t p6 p7 p8 p9 p10 p11 p12 p13 p14 p15 s dd p18) (PQuantF c l p0 p1 p2 p3 p4 t p6 p7 p8 p9 p10 p11 p12 p13 p14 p15 s dd p18) := by
  refine Ev.congr (fun k => headseg_ParseQuant.f.eq_1 ..) (Ev.bind (quantRead_ev hb hl) ?_)
  rw [if_pos (by omega), if_pos (by omega)]
  unfold PQuantF
  by_cases hc : c = 65443
  · rw [if_pos hc, if_pos hc]
    by_cases h1 : 2 ≤ l.length ∧ 2 + 2 * cntQ l ≤ l.length
    · rw [if_pos h1, if_pos h1, if_pos rfl]
      by_cases h2 : 2 + 2 * cntQ l < l.length
      · rw [if_pos h2, if_pos (show ((2 + 2 * cntQ l : Nat) : Int) < (l.length : Int) by omega)]
        exact Ev.now _
      · rw [if_neg h2, if_neg (show ¬ ((2 + 2 * cntQ l : Nat) : Int) < (l.length : Int) by omega)]
        exact Ev.now _
    · rw [if_neg h1, if_neg h1, if_neg (by simp [badQuant])]
      exact Ev.now _
  · rw [if_neg hc, if_neg hc]
    exact Ev.now _
def precAt (l : List Int) (p : Nat) : S89 := ⟨l.getD p 0 % 16, l.getD p 0 / 16⟩
def precsAt (l : List Int) : Nat → Nat → List S89
  | _, 0 => []
  | p, n + 1 => precAt l p :: precsAt l (p + 1) n
theorem precsAt_length (l : List Int) : ∀ n p, (precsAt l p n).length = n
  | 0, _ => rfl
  | n + 1, p => by simp [precsAt, precsAt_length l n]
theorem and15 : ∀ b : Fin 256, Go.bits .and .i64 ((b.val : Nat) : Int) 15 = ((b.val % 16 : Nat) : Int) := by decide +kernel
theorem and15' {x : Int} (h0 : 0 ≤ x) (h1 : x ≤ 255) : Go.bits .and .i64 x 15 = x % 16 := by
  have := and15 ⟨x.toNat, by omega⟩
  simp only [] at this
  rw [show ((x.toNat : Nat) : Int) = x by omega] at this
  rw [this]
  omega
theorem codLoop_in {l : List Int} (hb : ∀ x ∈ l, (Lit.int .u8 x).wf = true) (hl : l.length ≤ 1000000) (n : Nat) : ∀ (p : Nat) (xs : List S89), p + n ≤ l.length → xs.length ≤ p → Ev (fun k => codLoop k l (p : Int) (n : Int) xs) (0, xs ++ precsAt l p n, ((p + n : Nat) : Int)) := by
  induction n with
  | zero =>
    intro p xs hp hx
    refine Ev.step (fun k => codLoop.eq_2 ..) (Ev.neg (by omega) ?_)
    simpa [precsAt] using Ev.now ((0 : Int), xs, (p : Int))
  | succ n ih =>
    intro p xs hp hx
    have e2 : wrap64 ((p : Int) + 1) = ((p + 1 : Nat) : Int) := by unfold wrap64; omega
    have e4 : wrap64 (((n + 1 : Nat) : Int) - 1) = (n : Int) := by unfold wrap64; omega
    have r1 := ev_in l hl p 1 (by omega) (by omega) (by omega)
    rw [num_one hb p (by omega)] at r1
    obtain ⟨b0, b1⟩ := wf_u8 (hb _ (List.getElem_mem (show p < l.length by omega)))
    have hc : (⟨Go.bits .and .i64 l[p] 15, l[p] / 16⟩ : S89) = precAt l p := by
      unfold precAt
      rw [getD_at p (by omega), and15' b0 b1]
    have := ih (p + 1) (xs ++ [precAt l p]) (by omega) (by simp; omega)
    refine Ev.step (fun k => codLoop.eq_2 ..) (Ev.pos (by omega) (Ev.pos (by omega) (ev_rdn r1 ?_)))
    rw [e2, e4, hc]
    simpa [precsAt, show p + 1 + n = p + (n + 1) by omega] using this
theorem codLoop_out {l : List Int} (hl : l.length ≤ 1000000) (n : Nat) : ∀ (p : Nat) (xs : List S89), p ≤ l.length → l.length < p + n → xs.length ≤ p → n ≤ 1000000 → Ev (fun k => codLoop k l (p : Int) (n : Int) xs) (7, [], 0) := by
  induction n with
  | zero =>
    intro p xs hp hq hx hn1
    omega
  | succ n ih =>
    intro p xs hp hq hx hn1
    have e2 : wrap64 ((p : Int) + 1) = ((p + 1 : Nat) : Int) := by unfold wrap64; omega
    have e4 : wrap64 (((n + 1 : Nat) : Int) - 1) = (n : Int) := by unfold wrap64; omega
    refine Ev.step (fun k => codLoop.eq_2 ..) (Ev.pos (by omega) (Ev.pos (by omega) ?_))
    rw [e2, e4]
    by_cases c1 : p + 1 ≤ l.length
    rotate_left
    · exact ev_rdn_bad (by omega) (ev_out l hl p 1 (by omega) (by omega) hp (by omega))
    refine ev_rdn (ev_in l hl p 1 (by omega) (by omega) c1) ?_
    exact ih (p + 1) _ c1 (by omega) (by simp; omega) (by omega)
def cntC (l : List Int) : Nat := (l.getD 9 0).toNat
theorem cntC_le {l : List Int} (hb : ∀ x ∈ l, (Lit.int .u8 x).wf = true) (h : 10 ≤ l.length) : cntC l ≤ 255 ∧ l[9] = (cntC l : Int) := by
  obtain ⟨b0, b1⟩ := wf_u8 (hb _ (List.getElem_mem (show 9 < l.length by omega)))
  unfold cntC
  rw [getD_at 9 (by omega)]
  omega
theorem codRead_ev {l : List Int} (hb : ∀ x ∈ l, (Lit.int .u8 x).wf = true) (hl : l.length ≤ 1000000) :
    Ev (fun k => codRead k l) (if 10 ≤ l.length ∧ 10 + cntC l ≤ l.length then ⟨0, l.getD 0 0, l.getD 1 0, l.getD 2 0, l.getD 3 0, l.getD 4 0, l.getD 5 0, l.getD 6 0, l.getD 7 0, l.getD 8 0, precsAt l 10 (cntC l), ((10 + cntC l : Nat) : Int)⟩ else badCod 7) := by
  unfold codRead
  by_cases c0 : 1 ≤ l.length
  rotate_left
  · rw [if_neg (by omega)]; exact ev_rdn_bad (by omega) (ev_out l hl 0 1 (by omega) (by omega) (by omega) (by omega))
  have r0 := ev_in l hl 0 1 (by omega) (by omega) c0
  rw [num_one hb 0 (by omega)] at r0
  refine ev_rdn r0 ?_
  by_cases c1 : 2 ≤ l.length
  rotate_left
  · rw [if_neg (by omega)]; exact ev_rdn_bad (by omega) (ev_out l hl 1 1 (by omega) (by omega) (by omega) (by omega))
  have r1 := ev_in l hl 1 1 (by omega) (by omega) c1
  rw [num_one hb 1 (by omega)] at r1
  refine ev_rdn r1 ?_
  by_cases c2 : 3 ≤ l.length
  rotate_left
  · rw [if_neg (by omega)]; exact ev_rdn_bad (by omega) (ev_out l hl 2 1 (by omega) (by omega) (by omega) (by omega))
  have r2 := ev_in l hl 2 1 (by omega) (by omega) c2
  rw [num_one hb 2 (by omega)] at r2
  refine ev_rdn r2 ?_
  by_cases c3 : 4 ≤ l.length
  rotate_left
  · rw [if_neg (by omega)]; exact ev_rdn_bad (by omega) (ev_out l hl 3 1 (by omega) (by omega) (by omega) (by omega))
  have r3 := ev_in l hl 3 1 (by omega) (by omega) c3
  rw [num_one hb 3 (by omega)] at r3
  refine ev_rdn r3 ?_
  by_cases c4 : 5 ≤ l.length
  rotate_left
  · rw [if_neg (by omega)]; exact ev_rdn_bad (by omega) (ev_out l hl 4 1 (by omega) (by omega) (by omega) (by omega))
  have r4 := ev_in l hl 4 1 (by omega) (by omega) c4
  rw [num_one hb 4 (by omega)] at r4
  refine ev_rdn r4 ?_
  by_cases c5 : 6 ≤ l.length
  rotate_left
  · rw [if_neg (by omega)]; exact ev_rdn_bad (by omega) (ev_out l hl 5 1 (by omega) (by omega) (by omega) (by omega))
  have r5 := ev_in l hl 5 1 (by omega) (by omega) c5
  rw [num_one hb 5 (by omega)] at r5
  refine ev_rdn r5 ?_
  by_cases c6 : 7 ≤ l.length
  rotate_left
  · rw [if_neg (by omega)]; exact ev_rdn_bad (by omega) (ev_out l hl 6 1 (by omega) (by omega) (by omega) (by omega))
  have r6 := ev_in l hl 6 1 (by omega) (by omega) c6
  rw [num_one hb 6 (by omega)] at r6
  refine ev_rdn r6 ?_
  by_cases c7 : 8 ≤ l.length
  rotate_left
  · rw [if_neg (by omega)]; exact ev_rdn_bad (by omega) (ev_out l hl 7 1 (by omega) (by omega) (by omega) (by omega))
  have r7 := ev_in l hl 7 1 (by omega) (by omega) c7
  rw [num_one hb 7 (by omega)] at r7
  refine ev_rdn r7 ?_
  by_cases c8 : 9 ≤ l.length
  rotate_left
  · rw [if_neg (by omega)]; exact ev_rdn_bad (by omega) (ev_out l hl 8 1 (by omega) (by omega) (by omega) (by omega))
  have r8 := ev_in l hl 8 1 (by omega) (by omega) c8
  rw [num_one hb 8 (by omega)] at r8
  refine ev_rdn r8 ?_
  by_cases c9 : 10 ≤ l.length
  rotate_left
  · rw [if_neg (by omega)]; exact ev_rdn_bad (by omega) (ev_out l hl 9 1 (by omega) (by omega) (by omega) (by omega))
  have r9 := ev_in l hl 9 1 (by omega) (by omega) c9
  rw [num_one hb 9 (by omega)] at r9
  obtain ⟨hcn, h12⟩ := cntC_le hb c9
  rw [h12] at r9
  refine ev_rdn r9 ?_
  by_cases c10 : 10 + cntC l ≤ l.length
  · rw [if_pos ⟨c9, c10⟩, getD_at 0 (by omega), getD_at 1 (by omega), getD_at 2 (by omega), getD_at 3 (by omega), getD_at 4 (by omega), getD_at 5 (by omega), getD_at 6 (by omega), getD_at 7 (by omega), getD_at 8 (by omega)]
    have := codLoop_in hb hl (cntC l) 10 [] c10 (by simp)
    exact Ev.bind this (by simpa using Ev.now _)
  · rw [if_neg (by omega)]
    have := codLoop_out hl (cntC l) 10 [] c9 (by omega) (by simp) (by omega)
    exact Ev.bind this (by simpa using Ev.now (badCod 7))
def PCodF (c : Int) (l : List Int) : Int × Int × Int × Int × Int × List S89 × Int × Int × Bool × Bool × Bool × Bool × Bool × Bool × Bool × Bool × List Int × Int × Int × Int :=
  if c = 65442 then (if 10 ≤ l.length ∧ 10 + cntC l ≤ l.length then (if 10 + cntC l < l.length then zeroP 9 else (l.getD 0 0, l.getD 1 0, l.getD 2 0, l.getD 3 0, l.getD 4 0, precsAt l 10 (cntC l), l.getD 5 0, l.getD 6 0, flag (l.getD 7 0) 0, flag (l.getD 7 0) 1, flag (l.getD 7 0) 2, flag (l.getD 7 0) 3, flag (l.getD 7 0) 4, flag (l.getD 7 0) 5, flag (l.getD 7 0) 6, flag (l.getD 7 0) 7, [], 0, l.getD 8 0, 0)) else zeroP 7) else zeroP 11
theorem pcod_ev {l : List Int} (hb : ∀ x ∈ l, (Lit.int .u8 x).wf = true) (hl : l.length ≤ 1000000) (c : Int) : Ev (fun k => headseg_ParseCoding.f k c l) (PCodF c l) := by
  refine Ev.congr (fun k => headseg_ParseCoding.f.eq_1 ..) (Ev.bind (codRead_ev hb hl) ?_)
  unfold PCodF
  by_cases hc : c = 65442
  · rw [if_pos hc, if_pos hc]
    by_cases h1 : 10 ≤ l.length ∧ 10 + cntC l ≤ l.length
    · rw [if_pos h1, if_pos h1]
      simp only [if_true]
      by_cases h2 : 10 + cntC l < l.length
      · rw [if_pos h2, if_pos (show ((10 + cntC l : Nat) : Int) < (l.length : Int) by omega)]
        exact Ev.now _
      · rw [if_neg h2, if_neg (show ¬ ((10 + cntC l : Nat) : Int) < (l.length : Int) by omega)]
        exact Ev.now _
    · rw [if_neg h1, if_neg h1, if_neg (by simp [badCod])]
      exact Ev.now _
  · rw [if_neg hc, if_neg hc]
    exact Ev.now _
theorem byte_of {x : Int} (h0 : 0 ≤ x) (h1 : x ≤ 255) : ∃ b : Fin 256, x = ((b.val : Nat) : Int) := ⟨⟨x.toNat, by omega⟩, by simp only []; omega⟩
/-- What Tile returns. -/
def TileF (t p q s : Int) : Int × List Int × Int :=
  if (0 ≤ t ∧ t ≤ 65535) ∧ (0 ≤ p ∧ p ≤ 255) ∧ (0 ≤ q ∧ q ≤ 255) ∧ (0 ≤ s ∧ s ≤ 4294967295) then (65456, be t 2 ++ [p % 256, q % 256] ++ be s 4, 0) else (0, [], 2)
theorem inside_one (lo hi a : Int) : inside lo hi [a] = (decide (lo ≤ a) && decide (a ≤ hi)) := by simp [inside]
theorem inside_two (lo hi a b : Int) : inside lo hi [a, b] = ((decide (lo ≤ a) && decide (a ≤ hi)) && (decide (lo ≤ b) && decide (b ≤ hi))) := by simp [inside]
theorem tile_eq (t p q s : Int) (k : Nat) : headseg_Tile.f (k + 20) t p q s = some (TileF t p q s) := by
  have hw1 := within_eq 0 65535 [t] (by simp) (k + 18)
  have hw2 := within_eq 0 255 [p, q] (by simp) (k + 17)
  have hw3 := within_eq 0 4294967295 [s] (by simp) (k + 18)
  simp only [List.length_cons, List.length_nil] at hw1 hw2 hw3
  have hj : headseg_Tile.j0 (k + 20) t p q s true = some (0, [], 2) := by rw [show k + 20 = (k + 19) + 1 from rfl, headseg_Tile.j0, if_pos rfl]
  unfold headseg_Tile.f TileF
  rw [show k + 20 = k + 18 + (0 + 1) + 1 from rfl, hw1, show k + 18 + (0 + 1) + 1 = k + 17 + (0 + 1 + 1) + 1 from rfl, hw2, show k + 17 + (0 + 1 + 1) + 1 = k + 18 + (0 + 1) + 1 from rfl, hw3, show k + 18 + (0 + 1) + 1 = k + 20 from rfl]
  simp only [Option.bind_some, inside_one, inside_two, hj]
  by_cases h1 : 0 ≤ t ∧ t ≤ 65535
  rotate_left
  · rw [if_neg (by simp; omega), if_neg (fun h => h1 h.1)]
  rw [if_pos (by simp; omega)]
  by_cases h2 : (0 ≤ p ∧ p ≤ 255) ∧ (0 ≤ q ∧ q ≤ 255)
  rotate_left
  · rw [if_neg (by simp; omega), if_neg (fun h => h2 ⟨h.2.1, h.2.2.1⟩)]
  rw [if_pos (by simp; omega)]
  by_cases h3 : 0 ≤ s ∧ s ≤ 4294967295
  rotate_left
  · rw [show (!(decide (0 ≤ s) && decide (s ≤ 4294967295))) = true by simp; omega, hj, if_neg (fun h => h3 h.2.2.2)]
  rw [show (!(decide (0 ≤ s) && decide (s ≤ 4294967295))) = false by simp; omega, if_pos ⟨h1, h2.1, h2.2, h3⟩, show k + 20 = (k + 19) + 1 from rfl, headseg_Tile.j0, if_neg (by simp)]
  have hp1 := put_eq [] t 2 (by omega) (by simp) (k + 10)
  have hp2 := put_eq (be t 2 ++ [p % 256, q % 256]) s 4 (by omega) (by simp [be_length]) (k + 10)
  rw [show ((2 : Nat) : Int) = 2 from rfl] at hp1
  rw [show ((4 : Nat) : Int) = 4 from rfl] at hp2
  rw [hp1]
  simp only [Option.bind_some, List.nil_append]
  rw [if_pos (by simp [be_length]), hp2]
  rfl
theorem TileF_length (t p q s : Int) : (TileF t p q s).2.1.length ≤ 8 := by
  unfold TileF
  split
  · simp [be_length]
  · simp
/-- What ParseTile returns. -/
def PTile (c : Int) (l : List Int) : Int × Int × Int × Int × Int :=
  if c = 65456 then (if l.length < 8 then (0, 0, 0, 0, 7) else if 8 < l.length then (0, 0, 0, 0, 9) else (num (sub l 0 2), num (sub l 2 1), num (sub l 3 1), num (sub l 4 4), 0)) else (0, 0, 0, 0, 11)
theorem tileRead_eq (l : List Int) (hl : l.length ≤ 1000000) (k : Nat) : ∃ t, tileRead (k + 6) l = some t ∧ (if 8 ≤ l.length then t = (0, num (sub l 0 2), num (sub l 2 1), num (sub l 3 1), num (sub l 4 4)) else t.1 = 7) := by
  have h0 := ru_eq l 0 2 hl (by omega) k
  have h1 := ru_eq l 2 1 hl (by omega) k
  have h2 := ru_eq l 3 1 hl (by omega) k
  have h3 := ru_eq l 4 4 hl (by omega) k
  unfold tileRead
  rw [h0, h1, h2, h3]
  simp only [Option.bind_some]
  by_cases c0 : 2 ≤ l.length
  rotate_left
  · rw [show RU l 0 2 = (0, 7) from RU_out l 0 2 (by omega) (by omega) (by omega) (by omega), if_neg (by simp)]
    exact ⟨_, rfl, by rw [if_neg (by omega)]⟩
  rw [show RU l 0 2 = _ from RU_in l 0 2 (by omega) (by omega) (by omega), if_pos rfl]
  by_cases c1 : 3 ≤ l.length
  rotate_left
  · rw [show RU l 2 1 = (0, 7) from RU_out l 2 1 (by omega) (by omega) (by omega) (by omega), if_neg (by simp)]
    exact ⟨_, rfl, by rw [if_neg (by omega)]⟩
  rw [show RU l 2 1 = _ from RU_in l 2 1 (by omega) (by omega) (by omega), if_pos rfl]
  by_cases c2 : 4 ≤ l.length
  rotate_left
  · rw [show RU l 3 1 = (0, 7) from RU_out l 3 1 (by omega) (by omega) (by omega) (by omega), if_neg (by simp)]
    exact ⟨_, rfl, by rw [if_neg (by omega)]⟩
  rw [show RU l 3 1 = _ from RU_in l 3 1 (by omega) (by omega) (by omega), if_pos rfl]
  by_cases c3 : 8 ≤ l.length
  rotate_left
  · rw [show RU l 4 4 = (0, 7) from RU_out l 4 4 (by omega) (by omega) (by omega) (by omega), if_neg (by simp)]
    exact ⟨_, rfl, by rw [if_neg (by omega)]⟩
  rw [show RU l 4 4 = _ from RU_in l 4 4 (by omega) (by omega) (by omega), if_pos rfl]
  exact ⟨_, rfl, by rw [if_pos c3]⟩
theorem ptile_eq (c : Int) (l : List Int) (hl : l.length ≤ 1000000) (k : Nat) : headseg_ParseTile.f (k + 6) c l = some (PTile c l) := by
  obtain ⟨t, ht, h⟩ := tileRead_eq l hl k
  unfold headseg_ParseTile.f PTile
  rw [ht]
  simp only [Option.bind_some, Option.some.injEq]
  by_cases hc : c = 65456
  · rw [if_pos hc, if_pos hc]
    by_cases h8 : 8 ≤ l.length
    · rw [if_pos h8] at h
      subst h
      rw [if_pos rfl, if_neg (show ¬ l.length < 8 by omega)]
      by_cases h9 : 8 < l.length
      · rw [if_pos (by omega), if_pos h9]
      · rw [if_neg (by omega), if_neg h9]
    · rw [if_neg h8] at h
      rw [if_neg (by omega), if_pos (by omega), h]
  · rw [if_neg hc, if_neg hc]
end Go.Proofs.Ytihfopblmjgfaaa.Pure

/- What is written is read back. Printed by wip/tools/genPureRest.py of this session. -/
namespace Go.Proofs.Ytihfopblmjgfaaa.Pure
open Go.RowKit Go.Proofs.Ytihfopblmjgfaaa.Q Go.Proofs.YtihfopblmjgfaaaW.PrintWords
set_option linter.unusedVariables false
set_option maxRecDepth 100000
def BY (l : List Int) : Prop := ∀ x ∈ l, (Lit.int .u8 x).wf = true
theorem wf_of {x : Int} (h0 : 0 ≤ x) (h1 : x ≤ 255) : (Lit.int .u8 x).wf = true := by
  simp [Lit.wf, IntKind.min, IntKind.max, IntKind.signed, IntKind.bits]
  omega
theorem wf_mod (x : Int) : (Lit.int .u8 (x % 256)).wf = true := wf_of (by omega) (by omega)
theorem BY_nil : BY [] := by simp [BY]
theorem BY_cons {x : Int} {l : List Int} (h : BY l) : BY (x % 256 :: l) := fun y hy => by
  rcases List.mem_cons.1 hy with rfl | hy
  · exact wf_mod x
  · exact h y hy
theorem BY_app {a b : List Int} (ha : BY a) (hb : BY b) : BY (a ++ b) := fun x hx => by
  rcases List.mem_append.1 hx with h | h
  · exact ha x h
  · exact hb x h
theorem BY_be (v : Int) : ∀ n, BY (be v n)
  | 0 => BY_nil
  | n + 1 => BY_cons (BY_be v n)
theorem BY_enc1 : ∀ l, BY (enc1 l)
  | [] => BY_nil
  | v :: l => BY_cons (BY_enc1 l)
theorem BY_encP : ∀ l, BY (encP l)
  | [] => BY_nil
  | v :: l => BY_cons (BY_encP l)
theorem BY_encS : ∀ l, BY (encS l)
  | [] => BY_nil
  | v :: l => BY_app (BY_be _ 2) (BY_encS l)
theorem BY_enc2 : ∀ l, BY (enc2 l)
  | [] => BY_nil
  | v :: l => BY_app (BY_be _ 2) (BY_enc2 l)
theorem BY_encCs : ∀ l, BY (encCs l)
  | [] => BY_nil
  | c :: l => BY_app (BY_cons (BY_cons (BY_cons BY_nil))) (BY_encCs l)
theorem num2 {v : Int} (h0 : 0 ≤ v) (h1 : v ≤ 65535) : num [v / 256 % 256, v % 256] = v := by
  simp only [num, List.foldl]
  rw [step_eq (v := 0) (by omega) (by omega) (by omega) (by omega), step_eq (by omega) (by omega) (by omega) (by omega)]
  omega
theorem num1 {v : Int} (h0 : 0 ≤ v) (h1 : v ≤ 255) : num [v % 256] = v := by
  simp only [num, List.foldl]
  rw [step_eq (v := 0) (by omega) (by omega) (by omega) (by omega)]
  omega
theorem num4 {v : Int} (h0 : 0 ≤ v) (h1 : v ≤ 4294967295) : num [v / 16777216 % 256, v / 65536 % 256, v / 256 % 256, v % 256] = v := by
  simp only [num, List.foldl]
  have s1 : step 0 (v / 16777216 % 256) = v / 16777216 % 256 := by rw [step_eq (by omega) (by omega) (by omega) (by omega)]; omega
  have s2 : step (v / 16777216 % 256) (v / 65536 % 256) = v / 65536 := by rw [step_eq (by omega) (by omega) (by omega) (by omega)]; omega
  have s3 : step (v / 65536) (v / 256 % 256) = v / 256 := by rw [step_eq (by omega) (by omega) (by omega) (by omega)]; omega
  have s4 : step (v / 256) (v % 256) = v := by rw [step_eq (by omega) (by omega) (by omega) (by omega)]; omega
  rw [s1, s2, s3, s4]
theorem getD_pre (pre rest : List Int) (x : Int) : (pre ++ x :: rest).getD pre.length 0 = x := by simp [List.getD_eq_getElem?_getD]
theorem sub_pre (pre u rest : List Int) (n : Nat) (hn : u.length = n) : sub (pre ++ (u ++ rest)) pre.length n = u := by
  subst hn
  unfold sub
  rw [List.drop_take, List.drop_left, Nat.add_sub_cancel_left, List.take_left]
def mkc (b x y : Int) : S97 := ⟨b % 128 + 1, decide (b ≥ 128), x, y⟩
theorem compAt_mk (l : List Int) (p : Nat) : compAt l p = mkc (l.getD p 0) (l.getD (p + 1) 0) (l.getD (p + 2) 0) := rfl
theorem comp_back (c : S97) (h : compOK c) (pre rest : List Int) : compAt (pre ++ (encC c ++ rest)) pre.length = c := by
  obtain ⟨h0, h2, h3⟩ := h
  have g0 := getD_pre pre (c.f2 % 256 :: c.f3 % 256 :: rest) ((if c.f1 = true then wrap64 (wrap64 (c.f0 - 1) + 128) else wrap64 (c.f0 - 1)) % 256)
  have g1 := getD_pre (pre ++ [(if c.f1 = true then wrap64 (wrap64 (c.f0 - 1) + 128) else wrap64 (c.f0 - 1)) % 256]) (c.f3 % 256 :: rest) (c.f2 % 256)
  have g2 := getD_pre (pre ++ [(if c.f1 = true then wrap64 (wrap64 (c.f0 - 1) + 128) else wrap64 (c.f0 - 1)) % 256, c.f2 % 256]) rest (c.f3 % 256)
  simp only [List.append_assoc, List.cons_append, List.nil_append, List.length_append, List.length_cons, List.length_nil] at g1 g2
  rw [compAt_mk]
  unfold encC
  simp only [List.cons_append, List.nil_append]
  rw [g0, show pre.length + 1 = pre.length + (0 + 1) from rfl, g1, show pre.length + 2 = pre.length + (0 + 1 + 1) from rfl, g2]
  unfold mkc
  have hw : wrap64 (c.f0 - 1) = c.f0 - 1 := by unfold wrap64; omega
  obtain ⟨f0, f1, f2, f3⟩ := c
  simp only at *
  rw [hw]
  cases f1 with
  | true =>
    simp only [if_true]
    rw [show wrap64 (f0 - 1 + 128) = f0 + 127 by unfold wrap64; omega]
    have e1 : (f0 + 127) % 256 % 128 + 1 = f0 := by omega
    have e2 : decide ((f0 + 127) % 256 ≥ 128) = true := decide_eq_true (by omega)
    rw [e1, e2, show f2 % 256 = f2 by omega, show f3 % 256 = f3 by omega]
  | false =>
    simp only [Bool.false_eq_true, if_false]
    have e1 : (f0 - 1) % 256 % 128 + 1 = f0 := by omega
    have e2 : decide ((f0 - 1) % 256 ≥ 128) = false := decide_eq_false (by omega)
    rw [e1, e2, show f2 % 256 = f2 by omega, show f3 % 256 = f3 by omega]
theorem comps_back : ∀ (l : List S97) (pre : List Int), (∀ c ∈ l, compOK c) → compsAt (pre ++ encCs l) pre.length l.length = l
  | [], _, _ => rfl
  | c :: l, pre, h => by
    have ih := comps_back l (pre ++ encC c) (fun x hx => h x (List.mem_cons_of_mem _ hx))
    rw [List.append_assoc, List.length_append, show (encC c).length = 3 from rfl] at ih
    rw [encCs, List.length_cons, compsAt, comp_back c (h c (List.mem_cons_self ..)) pre _, ih]
theorem sizeB_cons (a b c d tw th : Int) (l : List S97) : SizeB a b c d tw th l = [a / 256 % 256, a % 256, b / 256 % 256, b % 256, c / 256 % 256, c % 256, d / 256 % 256, d % 256, tw / 256 % 256, tw % 256, th / 256 % 256, th % 256, (l.length : Int) % 256] ++ encCs l := by simp [SizeB, enc2, be]
theorem BY_SizeB (a b c d tw th : Int) (l : List S97) : BY (SizeB a b c d tw th l) := BY_app (BY_app (BY_enc2 _) (BY_be _ 1)) (BY_encCs l)
theorem size_back {a b c d tw th : Int} {l : List S97} (h : hdrOK a b c d tw th l) : (SizeB a b c d tw th l).length = 13 + 3 * l.length ∧ head6 (SizeB a b c d tw th l) = (a, b, c, d, tw, th) ∧ cnt (SizeB a b c d tw th l) = l.length ∧ compsAt (SizeB a b c d tw th l) 13 l.length = l := by
  obtain ⟨⟨ha, hb, hc, hd⟩, ⟨h1, h2⟩, h4, hl⟩ := h
  rw [sizeB_cons]
  refine ⟨by simp [encCs_length]; omega, ?_, ?_, ?_⟩
  · show (num [a / 256 % 256, a % 256], num [b / 256 % 256, b % 256], num [c / 256 % 256, c % 256], num [d / 256 % 256, d % 256], num [tw / 256 % 256, tw % 256], num [th / 256 % 256, th % 256]) = _
    rw [num2 (by omega) (by omega), num2 (by omega) (by omega), num2 (by omega) (by omega), num2 (by omega) (by omega), num2 (by omega) (by omega), num2 (by omega) (by omega)]
  · show ((l.length : Int) % 256).toNat = _
    omega
  · exact comps_back l [a / 256 % 256, a % 256, b / 256 % 256, b % 256, c / 256 % 256, c % 256, d / 256 % 256, d % 256, tw / 256 % 256, tw % 256, th / 256 % 256, th % 256, (l.length : Int) % 256] hl
theorem psize_back {a b c d tw th : Int} {l : List S97} (h : hdrOK a b c d tw th l) (hv : Ev (fun k => params_Header.f k a b c d tw th l) 0) : Ev (fun k => headseg_ParseSize.f k 65441 (SizeB a b c d tw th l)) (a, b, c, d, tw, th, l, 0) := by
  obtain ⟨e1, e2, e3, e4⟩ := size_back h
  have h4 := h.2.2.1
  have := psize_ev (l := SizeB a b c d tw th l) (BY_SizeB a b c d tw th l) (by omega) 65441 (r := 0) (by rw [e2, e3, e4]; exact hv)
  rw [show PSizeF 0 65441 (SizeB a b c d tw th l) = (a, b, c, d, tw, th, l, 0) by
    unfold PSizeF
    rw [if_pos rfl, e2, e3, e4, if_pos (by omega), if_neg (by omega), if_pos rfl]] at this
  exact this
theorem steps_back : ∀ (l : List Int) (pre : List Int), (∀ x ∈ l, 1 ≤ x ∧ x ≤ 65536) → stepsAt (pre ++ encS l) pre.length l.length = l
  | [], _, _ => rfl
  | x :: l, pre, h => by
    have ih := steps_back l (pre ++ be (wrap64 (x - 1)) 2) (fun y hy => h y (List.mem_cons_of_mem _ hy))
    rw [List.append_assoc, List.length_append, be_length] at ih
    have hx := h x (List.mem_cons_self ..)
    rw [encS, List.length_cons, stepsAt, sub_pre pre _ _ 2 (be_length _ 2), ih]
    rw [show be (wrap64 (x - 1)) 2 = [wrap64 (x - 1) / 256 % 256, wrap64 (x - 1) % 256] by simp [be], show wrap64 (x - 1) = x - 1 by unfold wrap64; omega, num2 (by omega) (by omega), show wrap64 (x - 1 + 1) = x by unfold wrap64; omega]
theorem inside_all {lo hi : Int} {l : List Int} (h : inside lo hi l = true) : ∀ x ∈ l, lo ≤ x ∧ x ≤ hi := fun x hx => by
  have := List.all_eq_true.1 h x hx
  simpa using this
def quantB (dd : Int) (s : List Int) : List Int := be dd 1 ++ be (s.length : Int) 1 ++ encS s
theorem quant_back (p0 : Int) (p1 : Int) (p2 : Int) (p3 : Int) (p4 : Int) (t : List S89) (p6 : Int) (p7 : Int) (b0 : Bool) (b1 : Bool) (b2 : Bool) (b3 : Bool) (b4 : Bool) (b5 : Bool) (b6 : Bool) (b7 : Bool) (s : List Int) (dd : Int) (p18 : Int) (z : List Int) (zd : Int) (hd : 0 ≤ dd ∧ dd ≤ 255) (hs : s.length ≤ 255) (hin : inside 1 65536 s = true) : PQuantF 65443 (quantB dd s) p0 p1 p2 p3 p4 t p6 p7 b0 b1 b2 b3 b4 b5 b6 b7 z zd p18 = (p0, p1, p2, p3, p4, t, p6, p7, b0, b1, b2, b3, b4, b5, b6, b7, s, dd, p18, 0) := by
  have e : quantB dd s = [dd % 256, (s.length : Int) % 256] ++ encS s := by simp [quantB, be]
  have hl : (quantB dd s).length = 2 + 2 * s.length := by rw [e]; simp [encS_length]; omega
  have hc : cntQ (quantB dd s) = s.length := by rw [e]; show ((s.length : Int) % 256).toNat = _; omega
  have hst : stepsAt (quantB dd s) 2 s.length = s := by rw [e]; exact steps_back s [dd % 256, (s.length : Int) % 256] (inside_all hin)
  have h0 : (quantB dd s).getD 0 0 = dd := by rw [e]; show dd % 256 = dd; omega
  unfold PQuantF
  rw [if_pos rfl, hc, hst, h0, if_pos (by omega), if_neg (by omega)]
theorem BY_quantB (dd : Int) (s : List Int) : BY (quantB dd s) := BY_app (BY_app (BY_be _ 1) (BY_be _ 1)) (BY_encS s)
theorem precOK_cons {q : S89} {t : List S89} (h : precOK (q :: t) = true) : (0 ≤ q.f0 ∧ q.f0 ≤ 15) ∧ (0 ≤ q.f1 ∧ q.f1 ≤ 15) ∧ precOK t = true := by
  simp only [precOK, Bool.and_eq_true, decide_eq_true_eq] at h
  exact ⟨h.1.1, h.1.2, h.2⟩
theorem precs_back : ∀ (t : List S89) (pre : List Int), precOK t = true → precsAt (pre ++ encP t) pre.length t.length = t
  | [], _, _ => rfl
  | q :: t, pre, h => by
    obtain ⟨h0, h1, h⟩ := precOK_cons h
    have ih := precs_back t (pre ++ [wrap64 (q.f0 + wrap64 (16 * q.f1)) % 256]) h
    rw [List.append_assoc, List.length_append] at ih
    simp only [List.cons_append, List.nil_append, List.length_cons, List.length_nil, Nat.zero_add] at ih
    have g := getD_pre pre (encP t) (wrap64 (q.f0 + wrap64 (16 * q.f1)) % 256)
    rw [encP, List.length_cons, precsAt, ih, precAt, g]
    have e : wrap64 (q.f0 + wrap64 (16 * q.f1)) % 256 = q.f0 + 16 * q.f1 := by unfold wrap64; omega
    rw [e, show (q.f0 + 16 * q.f1) % 16 = q.f0 by omega, show (q.f0 + 16 * q.f1) / 16 = q.f1 by omega]
theorem flag_part : ∀ b0 b1 b2 b3 b4 b5 b6 b7 : Bool, flag (part [b0, b1, b2, b3, b4, b5, b6, b7] 8) 0 = b0 ∧ flag (part [b0, b1, b2, b3, b4, b5, b6, b7] 8) 1 = b1 ∧ flag (part [b0, b1, b2, b3, b4, b5, b6, b7] 8) 2 = b2 ∧ flag (part [b0, b1, b2, b3, b4, b5, b6, b7] 8) 3 = b3 ∧ flag (part [b0, b1, b2, b3, b4, b5, b6, b7] 8) 4 = b4 ∧ flag (part [b0, b1, b2, b3, b4, b5, b6, b7] 8) 5 = b5 ∧ flag (part [b0, b1, b2, b3, b4, b5, b6, b7] 8) 6 = b6 ∧ flag (part [b0, b1, b2, b3, b4, b5, b6, b7] 8) 7 = b7 := by decide +kernel
def codB (p0 : Int) (p1 : Int) (p2 : Int) (p3 : Int) (p4 : Int) (t : List S89) (p6 : Int) (p7 : Int) (b0 : Bool) (b1 : Bool) (b2 : Bool) (b3 : Bool) (b4 : Bool) (b5 : Bool) (b6 : Bool) (b7 : Bool) (s : List Int) (dd : Int) (p18 : Int) : List Int := enc1 (codL p0 p1 p2 p3 p4 t p6 p7 b0 b1 b2 b3 b4 b5 b6 b7 s dd p18) ++ encP t
theorem BY_codB (p0 : Int) (p1 : Int) (p2 : Int) (p3 : Int) (p4 : Int) (t : List S89) (p6 : Int) (p7 : Int) (b0 : Bool) (b1 : Bool) (b2 : Bool) (b3 : Bool) (b4 : Bool) (b5 : Bool) (b6 : Bool) (b7 : Bool) (s : List Int) (dd : Int) (p18 : Int) : BY (codB p0 p1 p2 p3 p4 t p6 p7 b0 b1 b2 b3 b4 b5 b6 b7 s dd p18) := BY_app (BY_enc1 _) (BY_encP t)
theorem cod_back (p0 : Int) (p1 : Int) (p2 : Int) (p3 : Int) (p4 : Int) (t : List S89) (p6 : Int) (p7 : Int) (b0 : Bool) (b1 : Bool) (b2 : Bool) (b3 : Bool) (b4 : Bool) (b5 : Bool) (b6 : Bool) (b7 : Bool) (s : List Int) (dd : Int) (p18 : Int) (hin : inside 0 255 (codL p0 p1 p2 p3 p4 t p6 p7 b0 b1 b2 b3 b4 b5 b6 b7 s dd p18) = true) (ht : precOK t = true) : PCodF 65442 (codB p0 p1 p2 p3 p4 t p6 p7 b0 b1 b2 b3 b4 b5 b6 b7 s dd p18) = (p0, p1, p2, p3, p4, t, p6, p7, b0, b1, b2, b3, b4, b5, b6, b7, [], 0, p18, 0) := by
  have hb := inside_all hin
  simp only [codL, List.mem_cons, List.not_mem_nil, or_false, forall_eq_or_imp, forall_eq] at hb
  obtain ⟨h0, h1, h2, h3, h4, h5, h6, h7, h8, h9⟩ := hb
  have e : codB p0 p1 p2 p3 p4 t p6 p7 b0 b1 b2 b3 b4 b5 b6 b7 s dd p18 = [p0 % 256, p1 % 256, p2 % 256, p3 % 256, p4 % 256, p6 % 256, p7 % 256, part [b0, b1, b2, b3, b4, b5, b6, b7] 8 % 256, p18 % 256, (t.length : Int) % 256] ++ encP t := by simp only [codB, codL, enc1]
  have hl : (codB p0 p1 p2 p3 p4 t p6 p7 b0 b1 b2 b3 b4 b5 b6 b7 s dd p18).length = 10 + t.length := by rw [e]; simp [encP_length]; omega
  have hc : cntC (codB p0 p1 p2 p3 p4 t p6 p7 b0 b1 b2 b3 b4 b5 b6 b7 s dd p18) = t.length := by rw [e]; show ((t.length : Int) % 256).toNat = _; omega
  have hp : precsAt (codB p0 p1 p2 p3 p4 t p6 p7 b0 b1 b2 b3 b4 b5 b6 b7 s dd p18) 10 t.length = t := by rw [e]; exact precs_back t [p0 % 256, p1 % 256, p2 % 256, p3 % 256, p4 % 256, p6 % 256, p7 % 256, part [b0, b1, b2, b3, b4, b5, b6, b7] 8 % 256, p18 % 256, (t.length : Int) % 256] ht
  have g0 : (codB p0 p1 p2 p3 p4 t p6 p7 b0 b1 b2 b3 b4 b5 b6 b7 s dd p18).getD 0 0 = p0 := by rw [e]; show p0 % 256 = p0; omega
  have g1 : (codB p0 p1 p2 p3 p4 t p6 p7 b0 b1 b2 b3 b4 b5 b6 b7 s dd p18).getD 1 0 = p1 := by rw [e]; show p1 % 256 = p1; omega
  have g2 : (codB p0 p1 p2 p3 p4 t p6 p7 b0 b1 b2 b3 b4 b5 b6 b7 s dd p18).getD 2 0 = p2 := by rw [e]; show p2 % 256 = p2; omega
  have g3 : (codB p0 p1 p2 p3 p4 t p6 p7 b0 b1 b2 b3 b4 b5 b6 b7 s dd p18).getD 3 0 = p3 := by rw [e]; show p3 % 256 = p3; omega
  have g4 : (codB p0 p1 p2 p3 p4 t p6 p7 b0 b1 b2 b3 b4 b5 b6 b7 s dd p18).getD 4 0 = p4 := by rw [e]; show p4 % 256 = p4; omega
  have g5 : (codB p0 p1 p2 p3 p4 t p6 p7 b0 b1 b2 b3 b4 b5 b6 b7 s dd p18).getD 5 0 = p6 := by rw [e]; show p6 % 256 = p6; omega
  have g6 : (codB p0 p1 p2 p3 p4 t p6 p7 b0 b1 b2 b3 b4 b5 b6 b7 s dd p18).getD 6 0 = p7 := by rw [e]; show p7 % 256 = p7; omega
  have g7 : (codB p0 p1 p2 p3 p4 t p6 p7 b0 b1 b2 b3 b4 b5 b6 b7 s dd p18).getD 7 0 = part [b0, b1, b2, b3, b4, b5, b6, b7] 8 := by rw [e]; show part [b0, b1, b2, b3, b4, b5, b6, b7] 8 % 256 = part [b0, b1, b2, b3, b4, b5, b6, b7] 8; omega
  have g8 : (codB p0 p1 p2 p3 p4 t p6 p7 b0 b1 b2 b3 b4 b5 b6 b7 s dd p18).getD 8 0 = p18 := by rw [e]; show p18 % 256 = p18; omega
  obtain ⟨f0, f1, f2, f3, f4, f5, f6, f7⟩ := flag_part b0 b1 b2 b3 b4 b5 b6 b7
  unfold PCodF
  rw [if_pos rfl, hc, hp, g0, g1, g2, g3, g4, g5, g6, g7, g8, f0, f1, f2, f3, f4, f5, f6, f7, if_pos (by omega), if_neg (by omega)]
def tileB (t p q s : Int) : List Int := be t 2 ++ [p % 256, q % 256] ++ be s 4
theorem tile_back {t p q s : Int} (h : (0 ≤ t ∧ t ≤ 65535) ∧ (0 ≤ p ∧ p ≤ 255) ∧ (0 ≤ q ∧ q ≤ 255) ∧ (0 ≤ s ∧ s ≤ 4294967295)) : PTile 65456 (tileB t p q s) = (t, p, q, s, 0) := by
  have e : tileB t p q s = [t / 256 % 256, t % 256, p % 256, q % 256, s / 16777216 % 256, s / 65536 % 256, s / 256 % 256, s % 256] := by simp [tileB, be]
  unfold PTile
  rw [e, if_pos rfl]
  show (num [t / 256 % 256, t % 256], num [p % 256], num [q % 256], num [s / 16777216 % 256, s / 65536 % 256, s / 256 % 256, s % 256], (0 : Int)) = _
  rw [num2 (by omega) (by omega), num1 (by omega) (by omega), num1 (by omega) (by omega), num4 (by omega) (by omega)]
end Go.Proofs.Ytihfopblmjgfaaa.Pure

/- HeadsegRestores: headers, parameters and numbers are restored from their segments. No condition beside the statement's own. -/
namespace Go.Proofs.Ytihfopblmjgfaaa.Pure
open Go.RowKit Go.Proofs.Ytihfopblmjgfaaa.Q Go.Proofs.YtihfopblmjgfaaaW.PrintWords
set_option linter.unusedVariables false
set_option maxRecDepth 100000
theorem sameHeader_loop (a b c d tw th : Int) (l : List S97) (hl : l.length ≤ 100000) (n : Nat) : ∀ i, i + n = l.length → Ev (fun k => waveletref23_SameHeader.l0 k (i : Int) a b c d tw th l a b c d tw th l) true := by
  induction n with
  | zero =>
    intro i hi
    exact Ev.step (fun k => waveletref23_SameHeader.l0.eq_2 ..) (Ev.neg (by omega) (Ev.now _))
  | succ n ih =>
    intro i hi
    refine Ev.step (fun k => waveletref23_SameHeader.l0.eq_2 ..) (Ev.pos (by omega) (Ev.pos (by omega) (Ev.pos (by omega) (Ev.neg (by simp) ?_))))
    rw [show wrap64 ((i : Int) + 1) = ((i + 1 : Nat) : Int) by unfold wrap64; omega]
    exact ih (i + 1) (by omega)
theorem ev_sameHeader (a b c d tw th : Int) (l : List S97) (hl : l.length ≤ 100000) : Ev (fun k => waveletref23_SameHeader.f k a b c d tw th l a b c d tw th l) true := by
  refine Ev.congr (fun k => waveletref23_SameHeader.f.eq_1 ..) (Ev.neg (by simp) (Ev.pos rfl (Ev.pos rfl ?_)))
  rw [show ((l.length : Int) != (l.length : Int)) = false by simp]
  exact Ev.step (fun k => waveletref23_SameHeader.j0.eq_2 ..) (Ev.neg (by simp) (sameHeader_loop a b c d tw th l hl l.length 0 (by omega)))

theorem posR {α : Type} {c : Prop} {I : Decidable c} {f g : Nat → Option α} {r : α} (h : c) (k : Ev f r) : Ev (fun n => @ite _ c I (f n) (g n)) r := Ev.pos h k
theorem negR {α : Type} {c : Prop} {I : Decidable c} {f g : Nat → Option α} {r : α} (h : ¬ c) (k : Ev g r) : Ev (fun n => @ite _ c I (f n) (g n)) r := Ev.neg h k
theorem restT_ev (t p q s : Int) : Ev (fun k => restT k t p q s) true := by
  refine Ev.congr (fun k => restT.eq_1 ..) (Ev.bind (Ev.plus 20 (tile_eq t p q s)) ?_)
  by_cases h : (0 ≤ t ∧ t ≤ 65535) ∧ (0 ≤ p ∧ p ≤ 255) ∧ (0 ≤ q ∧ q ≤ 255) ∧ (0 ≤ s ∧ s ≤ 4294967295)
  · have e : TileF t p q s = (65456, tileB t p q s, 0) := if_pos h
    rw [e]
    have hl : (tileB t p q s).length = 8 := by simp [tileB, be_length]
    have := Ev.plus (f := fun k => headseg_ParseTile.f k 65456 (tileB t p q s)) 6 (ptile_eq 65456 (tileB t p q s) (by omega))
    rw [tile_back h] at this
    exact posR rfl (Ev.bind this (posR rfl ev_awake))
  · have e : TileF t p q s = (0, [], 2) := if_neg h
    rw [e]
    exact negR (by simp) ev_awake
theorem restP_ev {a1_0 : Int} {a1_1 : Int} {a1_2 : Int} {a1_3 : Int} {a1_4 : Int} {l1_5 : List S89} {a1_6 : Int} {a1_7 : Int} {a1_8 : Bool} {a1_9 : Bool} {a1_10 : Bool} {a1_11 : Bool} {a1_12 : Bool} {a1_13 : Bool} {a1_14 : Bool} {a1_15 : Bool} {l1_16 : List Int} {a1_17 : Int} {a1_18 : Int} (t p q s : Int) (ht : l1_5.length ≤ 40) (hs : l1_16.length ≤ 40) : Ev (fun k => restP k a1_0 a1_1 a1_2 a1_3 a1_4 l1_5 a1_6 a1_7 a1_8 a1_9 a1_10 a1_11 a1_12 a1_13 a1_14 a1_15 l1_16 a1_17 a1_18 t p q s) true := by
  have hT := restT_ev t p q s
  refine Ev.congr (fun k => restP.eq_1 ..) (Ev.bind (coding_ev a1_0 a1_1 a1_2 a1_3 a1_4 l1_5 a1_6 a1_7 a1_8 a1_9 a1_10 a1_11 a1_12 a1_13 a1_14 a1_15 l1_16 a1_17 a1_18 (by omega)) (Ev.bind (quant_ev a1_0 a1_1 a1_2 a1_3 a1_4 l1_5 a1_6 a1_7 a1_8 a1_9 a1_10 a1_11 a1_12 a1_13 a1_14 a1_15 l1_16 a1_17 a1_18 (by omega)) ?_))
  by_cases h1 : inside 0 255 (codL a1_0 a1_1 a1_2 a1_3 a1_4 l1_5 a1_6 a1_7 a1_8 a1_9 a1_10 a1_11 a1_12 a1_13 a1_14 a1_15 l1_16 a1_17 a1_18) = true ∧ precOK l1_5 = true
  rotate_left
  · have e : CodF a1_0 a1_1 a1_2 a1_3 a1_4 l1_5 a1_6 a1_7 a1_8 a1_9 a1_10 a1_11 a1_12 a1_13 a1_14 a1_15 l1_16 a1_17 a1_18 = (0, [], 2) := by
      unfold CodF CodC
      by_cases h2 : inside 0 255 (codL a1_0 a1_1 a1_2 a1_3 a1_4 l1_5 a1_6 a1_7 a1_8 a1_9 a1_10 a1_11 a1_12 a1_13 a1_14 a1_15 l1_16 a1_17 a1_18) = true
      · rw [if_pos h2, if_neg (fun h => h1 ⟨h2, h⟩)]
      · rw [if_neg h2]
    rw [e]
    exact negR (by simp) hT
  have e1 : CodF a1_0 a1_1 a1_2 a1_3 a1_4 l1_5 a1_6 a1_7 a1_8 a1_9 a1_10 a1_11 a1_12 a1_13 a1_14 a1_15 l1_16 a1_17 a1_18 = (65442, codB a1_0 a1_1 a1_2 a1_3 a1_4 l1_5 a1_6 a1_7 a1_8 a1_9 a1_10 a1_11 a1_12 a1_13 a1_14 a1_15 l1_16 a1_17 a1_18, 0) := by
    unfold CodF CodC
    rw [if_pos h1.1, if_pos h1.2]
    rfl
  rw [e1]
  by_cases h2 : (0 ≤ a1_17 ∧ a1_17 ≤ 255) ∧ l1_16.length ≤ 255 ∧ inside 1 65536 l1_16 = true
  rotate_left
  · have e : QuantF a1_17 l1_16 = (0, [], 2) := if_neg h2
    rw [e]
    exact negR (by simp) hT
  have e2 : QuantF a1_17 l1_16 = (65443, quantB a1_17 l1_16, 0) := if_pos h2
  rw [e2]
  have hl1 : (codB a1_0 a1_1 a1_2 a1_3 a1_4 l1_5 a1_6 a1_7 a1_8 a1_9 a1_10 a1_11 a1_12 a1_13 a1_14 a1_15 l1_16 a1_17 a1_18).length ≤ 1000000 := by simp only [codB, List.length_append, enc1_length, encP_length, codL, List.length_cons, List.length_nil]; omega
  have hl2 : (quantB a1_17 l1_16).length ≤ 1000000 := by simp only [quantB, List.length_append, be_length, encS_length]; omega
  have p1 := pcod_ev (BY_codB a1_0 a1_1 a1_2 a1_3 a1_4 l1_5 a1_6 a1_7 a1_8 a1_9 a1_10 a1_11 a1_12 a1_13 a1_14 a1_15 l1_16 a1_17 a1_18) hl1 65442
  rw [cod_back a1_0 a1_1 a1_2 a1_3 a1_4 l1_5 a1_6 a1_7 a1_8 a1_9 a1_10 a1_11 a1_12 a1_13 a1_14 a1_15 l1_16 a1_17 a1_18 h1.1 h1.2] at p1
  have p2 := pquant_ev (BY_quantB a1_17 l1_16) hl2 65443 a1_0 a1_1 a1_2 a1_3 a1_4 l1_5 a1_6 a1_7 a1_8 a1_9 a1_10 a1_11 a1_12 a1_13 a1_14 a1_15 [] 0 a1_18 (by simp) (by omega)
  rw [quant_back a1_0 a1_1 a1_2 a1_3 a1_4 l1_5 a1_6 a1_7 a1_8 a1_9 a1_10 a1_11 a1_12 a1_13 a1_14 a1_15 l1_16 a1_17 a1_18 [] 0 h2.1 h2.2.1 h2.2.2] at p2
  exact posR ⟨rfl, rfl⟩ (Ev.bind p1 (posR ⟨rfl, rfl, rfl⟩ (Ev.bind p2 (posR rfl hT))))
theorem HeadsegRestores (a0_0 : Int) (a0_1 : Int) (a0_2 : Int) (a0_3 : Int) (a0_4 : Int) (a0_5 : Int) (l0_6 : List (S97)) (a1_0 : Int) (a1_1 : Int) (a1_2 : Int) (a1_3 : Int) (a1_4 : Int) (l1_5 : List (S89)) (a1_6 : Int) (a1_7 : Int) (a1_8 : Bool) (a1_9 : Bool) (a1_10 : Bool) (a1_11 : Bool) (a1_12 : Bool) (a1_13 : Bool) (a1_14 : Bool) (a1_15 : Bool) (l1_16 : List (Int)) (a1_17 : Int) (a1_18 : Int) (a2_0 : Int) (a2_1 : Int) (a2_2 : Int) (a2_3 : Int) (w0_0 : (Lit.int .i64 a0_0).wf = true) (w0_1 : (Lit.int .i64 a0_1).wf = true) (w0_2 : (Lit.int .i64 a0_2).wf = true) (w0_3 : (Lit.int .i64 a0_3).wf = true) (w0_4 : (Lit.int .i64 a0_4).wf = true) (w0_5 : (Lit.int .i64 a0_5).wf = true) (y0_6 : l0_6.length * 32 ≤ 140737488351232) (w0_6 : ∀ x ∈ l0_6, ((Lit.int .i64 x.f0).wf = true ∧ True ∧ (Lit.int .i64 x.f2).wf = true ∧ (Lit.int .i64 x.f3).wf = true)) (w1_0 : (Lit.int .i64 a1_0).wf = true) (w1_1 : (Lit.int .i64 a1_1).wf = true) (w1_2 : (Lit.int .i64 a1_2).wf = true) (w1_3 : (Lit.int .i64 a1_3).wf = true) (w1_4 : (Lit.int .i64 a1_4).wf = true) (y1_5 : l1_5.length * 16 ≤ 140737488351232) (w1_5 : ∀ x ∈ l1_5, ((Lit.int .i64 x.f0).wf = true ∧ (Lit.int .i64 x.f1).wf = true)) (w1_6 : (Lit.int .i64 a1_6).wf = true) (w1_7 : (Lit.int .i64 a1_7).wf = true) (y1_16 : l1_16.length * 8 ≤ 140737488351232) (w1_16 : ∀ x ∈ l1_16, (Lit.int .i64 x).wf = true) (w1_17 : (Lit.int .i64 a1_17).wf = true) (w1_18 : (Lit.int .i64 a1_18).wf = true) (w2_0 : (Lit.int .i64 a2_0).wf = true) (w2_1 : (Lit.int .i64 a2_1).wf = true) (w2_2 : (Lit.int .i64 a2_2).wf = true) (w2_3 : (Lit.int .i64 a2_3).wf = true) : ∃ k, waveletlaw29_HeadsegRestores.f k a0_0 a0_1 a0_2 a0_3 a0_4 a0_5 l0_6 a1_0 a1_1 a1_2 a1_3 a1_4 l1_5 a1_6 a1_7 a1_8 a1_9 a1_10 a1_11 a1_12 a1_13 a1_14 a1_15 l1_16 a1_17 a1_18 a2_0 a2_1 a2_2 a2_3 = some true := by
  refine Ev.rounds (Ev.congr (fun k => waveletlaw29_HeadsegRestores.f.eq_1 ..) ?_)
  by_cases h1 : (l0_6.length : Int) > 10
  · exact posR h1 ev_awake
  refine negR h1 ?_
  by_cases h2 : (l1_16.length : Int) > 40
  · exact posR h2 ev_awake
  refine negR h2 ?_
  by_cases h3 : (l1_5.length : Int) > 40
  · exact posR h3 ev_awake
  refine negR h3 ?_
  have hP : Ev (fun k => restP k a1_0 a1_1 a1_2 a1_3 a1_4 l1_5 a1_6 a1_7 a1_8 a1_9 a1_10 a1_11 a1_12 a1_13 a1_14 a1_15 l1_16 a1_17 a1_18 a2_0 a2_1 a2_2 a2_3) true := restP_ev a2_0 a2_1 a2_2 a2_3 (by omega) (by omega)
  obtain ⟨r, q1, hn⟩ := hdr_ev a0_0 a0_1 a0_2 a0_3 a0_4 a0_5 l0_6 (by omega)
  refine Ev.bind (size_ev a0_0 a0_1 a0_2 a0_3 a0_4 a0_5 l0_6 (by omega) q1) ?_
  by_cases hr : r = 0
  · subst hr
    have e : SizeF 0 a0_0 a0_1 a0_2 a0_3 a0_4 a0_5 l0_6 = (65441, SizeB a0_0 a0_1 a0_2 a0_3 a0_4 a0_5 l0_6, 0) := if_pos rfl
    rw [e]
    exact posR rfl (Ev.bind (psize_back (hn rfl) q1) (posR rfl (Ev.bind (ev_sameHeader a0_0 a0_1 a0_2 a0_3 a0_4 a0_5 l0_6 (by omega)) (posR rfl hP))))
  · have e : SizeF r a0_0 a0_1 a0_2 a0_3 a0_4 a0_5 l0_6 = (0, [], r) := if_neg hr
    rw [e]
    exact negR hr hP
end Go.Proofs.Ytihfopblmjgfaaa.Pure

/- How an argument of a law is opened as a value of a printed kind, for any type that is built of integers, bools, strings, slices and structs: 'Opens P t d ok' says that what reads as data of type t holds the cells of some v of kind d, with ok v. -/
namespace Go.Proofs.Ytihfopblmjgfaaa.Open
open Go.RowKit Go.Proofs.YtihfopblmjgfaaaW.PrintWords

def Light {H : Type} (P : Program) (t : TypeId) (d : DataW H) : Prop := ∀ n ∈ d.weights P t, n ≤ 140737488351232

structure Opens {α : Type} (P : Program) (t : TypeId) (d : Kd α) (ok : α → Prop) : Prop where
  size : P.cellsOf t = d.sz
  opens : ∀ {H : Type} {enc : TypeId × Value → H} {w : World} {base : Nat} {spare : Nat → Bool} {held : Bool} {fuel : Nat} {cs : List Value} {x : DataW H × List MemPlace},
    DataW.trod enc P w base spare held fuel t cs = some x → Light P t x.1 → ∃ v, d.K w v cs ∧ ok v

theorem opens_int {P : Program} {t : TypeId} {k : IntKind} (ht : P.underlying t = some (.int k)) (hc : P.cellsOf t = 1) : Opens P t (Kd.int k) (fun n => (Lit.int k n).wf = true) :=
  ⟨hc, fun h _ => by
    obtain ⟨n, rfl, _, hw⟩ := DataW.trod_int ht h
    exact ⟨n, rfl, hw⟩⟩
theorem opens_bool {P : Program} {t : TypeId} (ht : P.underlying t = some .bool) (hc : P.cellsOf t = 1) : Opens P t Kd.bool (fun _ => True) :=
  ⟨hc, fun h _ => by
    obtain ⟨b, rfl, _⟩ := DataW.trod_bool ht h
    exact ⟨b, rfl, trivial⟩⟩
theorem list_of_lt {α : Type} {p : Nat → α → Prop} : ∀ (n : Nat), (∀ i, i < n → ∃ v, p i v) → ∃ l : List α, l.length = n ∧ ∀ i v, l[i]? = some v → p i v
  | 0, _ => ⟨[], rfl, fun i v h => by simp at h⟩
  | n + 1, h => by
    obtain ⟨l, hl, hp⟩ := list_of_lt n (fun i hi => h i (by omega))
    obtain ⟨v, hv⟩ := h n (by omega)
    refine ⟨l ++ [v], by simp [hl], fun i u hu => ?_⟩
    rcases Nat.lt_or_ge i n with hi | hi
    · rw [List.getElem?_append_left (by omega)] at hu
      exact hp i u hu
    · rw [List.getElem?_append_right (by omega), hl] at hu
      have hi0 : i - n = 0 := by
        rcases Nat.eq_zero_or_pos (i - n) with h0 | h0
        · exact h0
        · rw [List.getElem?_eq_none (by simp; omega)] at hu
          cases hu
      rw [hi0] at hu
      have : i = n := by omega
      subst this
      have e : v = u := by simpa using hu
      subst e
      exact hv

theorem weightsAll_mem {H : Type} {P : Program} {e : TypeId} : ∀ {ds : List (DataW H)} {j : Nat} {d : DataW H}, ds[j]? = some d → ∀ n ∈ d.weights P e, n ∈ DataW.weightsAll P e ds
  | d0 :: ds, 0, d, hd, n, hn => by
    simp only [List.getElem?_cons_zero, Option.some.injEq] at hd
    subst hd
    simp only [DataW.weightsAll, List.mem_append]
    exact Or.inl hn
  | d0 :: ds, j + 1, d, hd, n, hn => by
    simp only [List.getElem?_cons_succ] at hd
    simp only [DataW.weightsAll, List.mem_append]
    exact Or.inr (weightsAll_mem hd n hn)
  | [], _, _, hd, _, _ => by simp at hd

theorem opens_slice {α : Type} {P : Program} {t e : TypeId} {d : Kd α} {ok : α → Prop} {B : Nat} (ht : P.underlying t = some (.slice e)) (hc : P.cellsOf t = 1) (hB : P.bytesOf e = B) (he : Opens P e d ok) :
    Opens P t (Kd.slice e d) (fun l => l.length * B ≤ 140737488351232 ∧ ∀ x ∈ l, ok x) :=
  ⟨hc, by
    intro H enc w base spare held fuel cs x h hl
    rcases DataW.trod_slice ht h with ⟨rfl, rfl⟩ | ⟨a, len, cap, elems, rest, n, _, rfl, rfl, hb, hlc, hm, hlen, hel, _, _⟩
    · exact ⟨[], ⟨none, 0, rfl, Nat.le_refl _, rfl, by simp, fun h0 => by simp at h0⟩, by simp, by simp⟩
    · have key : ∀ i, i < len → ∃ v : α, (∃ cs', w.cells? base (a.add (i * P.cellsOf e)) (P.cellsOf e) = some cs' ∧ d.K w v cs') ∧ ok v := by
        intro i hi
        have h1 := hel i hi
        rw [List.getElem?_eq_getElem (by omega)] at h1
        obtain ⟨cs', h2, h3⟩ := Option.bind_eq_some_iff.1 h1
        obtain ⟨v, hv, ho⟩ := he.opens h3 (fun m hm2 => hl m (by
          simp only [DataW.weights, ht, List.mem_cons, List.mem_append]
          exact Or.inr (Or.inl (weightsAll_mem (j := i) (by simp [List.getElem?_eq_getElem (show i < elems.length by omega)]) m hm2))))
        exact ⟨v, ⟨cs', h2, hv⟩, ho⟩
      obtain ⟨l, hll, hp⟩ := list_of_lt len key
      have hw := hl _ (by
        simp only [DataW.weights, ht]
        exact List.mem_cons_self)
      rw [hB] at hw
      refine ⟨l, ⟨some a, cap, by rw [hll], by omega, rfl, by unfold maxLen at hm; omega, fun _ => ⟨a, rfl, ?_⟩⟩, ?_, ?_⟩
      · intro j p hj
        obtain ⟨⟨cs', h2, hv⟩, _⟩ := hp j p hj
        obtain ⟨_, h4, h5⟩ := World.cells?_some h2
        refine ⟨cs', d.K_len hv, hv, fun i u hu => ?_⟩
        have hi : i < P.cellsOf e := by
          rw [← h4]
          exact (List.getElem?_eq_some_iff.1 hu).1
        rw [← hu, ← h5 i hi, he.size]
        congr 1
        simp only [Addr.add]
        split <;> split <;> split <;> first | rfl | omega | (simp; omega) | simp_all
      · have h6 : len ≤ (elems.map (·.1)).length + (rest.map (·.1)).length := by simp; omega
        rw [hll]
        exact Nat.le_trans (Nat.mul_le_mul_right B h6) hw
      · intro x hx
        obtain ⟨j, hj⟩ := List.mem_iff_getElem?.1 hx
        exact (hp j x hj).2⟩

def Parts {α : Type} (P : Program) (fs : List Field) (off total : Nat) (d : Kd α) (ok : α → Prop) : Prop :=
  ∀ {H : Type} {enc : TypeId × Value → H} {w : World} {base : Nat} {spare : Nat → Bool} {held : Bool} {n : Nat} {cs : List Value} (xs : List (DataW H × List MemPlace)), cs.length = total → xs.length = fs.length →
    (∀ (i : Nat) (f : Field), fs[i]? = some f → DataW.trod enc P w base spare held n f.type ((cs.drop f.offset).take (P.cellsOf f.type)) = xs[i]?) →
    (∀ (i : Nat) (f : Field) y, fs[i]? = some f → xs[i]? = some y → Light P f.type y.1) → ∃ v, d.K w v (cs.drop off) ∧ ok v

theorem parts_one {α : Type} {P : Program} {f : Field} {off total : Nat} {d : Kd α} {ok : α → Prop} (he : Opens P f.type d ok) (ho : f.offset = off) (hs : off + d.sz = total) : Parts P [f] off total d ok := by
  intro H enc w base spare held n cs xs hl hx h hw
  match xs, hx with
  | [y], _ =>
    have h0 := h 0 f rfl
    obtain ⟨v, hv, hk⟩ := he.opens h0 (hw 0 f y rfl rfl)
    refine ⟨v, ?_, hk⟩
    rw [ho, List.take_of_length_le (by rw [List.length_drop, he.size]; omega)] at hv
    exact hv
theorem parts_cons {α β : Type} {P : Program} {f : Field} {fs : List Field} {off total : Nat} {d : Kd α} {d2 : Kd β} {ok : α → Prop} {ok2 : β → Prop} (he : Opens P f.type d ok) (ho : f.offset = off) (h2 : Parts P fs (off + d.sz) total d2 ok2) :
    Parts P (f :: fs) off total (Kd.pair d d2) (fun p => ok p.1 ∧ ok2 p.2) := by
  intro H enc w base spare held n cs xs hl hx h hw
  match xs, hx with
  | y :: ys, hy =>
    have h0 := h 0 f rfl
    obtain ⟨v, hv, hk⟩ := he.opens h0 (hw 0 f y rfl rfl)
    obtain ⟨u, hu, hk2⟩ := h2 ys hl (by simpa using hy) (fun i g hg => h (i + 1) g (by simpa using hg)) (fun i g z hg hz => hw (i + 1) g z (by simpa using hg) (by simpa using hz))
    refine ⟨(v, u), ⟨_, _, ?_, hv, hu⟩, hk, hk2⟩
    rw [ho, he.size, ← List.drop_drop]
    exact (List.take_append_drop d.sz (cs.drop off)).symm
theorem opens_struct {α β : Type} {P : Program} {t : TypeId} {fs : Array Field} {d : Kd α} {ok : α → Prop} (ht : P.underlying t = some (.struct fs)) (hc : P.cellsOf t = d.sz) (h2 : Parts P fs.toList 0 (P.cellsOf t) d ok) (f : β → α) (g : α → β) (hfg : ∀ v, f (g v) = v) :
    Opens P t (Kd.iso d f) (fun x => ok (f x)) :=
  ⟨hc, by
    intro H enc w base spare held fuel cs x h hl
    obtain ⟨xs, n, _, rfl, hcl, hxl, hf⟩ := DataW.trod_struct ht h
    obtain ⟨v, hv, hk⟩ := h2 (cs := cs) xs hcl (by simpa using hxl) (fun i fd hi => hf i fd (by simpa using hi)) (fun i fd y hi hy m hm => hl m (by
      simp only [DataW.weights, ht]
      exact DataW.weights_mem_each (j := i) (by rw [List.getElem?_map, hi]; rfl) (by rw [List.getElem?_map, hy]; rfl) m hm))
    refine ⟨g v, ?_, ?_⟩
    · show d.K w (f (g v)) cs
      rw [hfg]
      simpa using hv
    · show ok (f (g v))
      rw [hfg]
      exact hk⟩

theorem light_of {H : Type} {P : Program} {ts : List TypeId} {ds : List (DataW H)} (hsz : (DataW.weightsEach P ts ds).all (· ≤ reachBytes) = true) {j : Nat} {t : TypeId} {d : DataW H} (ht : ts[j]? = some t) (hd : ds[j]? = some d) : Light P t d := by
  intro n hn
  have h1 := List.all_eq_true.1 hsz n (DataW.weights_mem_each ht hd n hn)
  have h2 : n ≤ reachBytes := by simpa using h1
  exact Nat.le_trans h2 (by decide)
end Go.Proofs.Ytihfopblmjgfaaa.Open
