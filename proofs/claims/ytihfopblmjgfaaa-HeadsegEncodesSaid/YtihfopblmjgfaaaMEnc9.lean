/- Texts of this session (words and printed walks, merged by wip/tools/merge.py) for the statement of the claim. -/
import Derived.Test.YtihfopblmjgfaaaMEnc1
import Derived.Test.YtihfopblmjgfaaaMEnc7
import Derived.Test.YtihfopblmjgfaaaMEnc5
import Derived.Test.YtihfopblmjgfaaaMEnc4
namespace Go.Proofs.Ytihfopblmjgfaaa.Q
open Go.RowKit Go.Proofs.YtihfopblmjgfaaaW.PrintWords Go.Proofs.YtihfopblmjgfaaaW.PrintLast Go.Proofs.YtihfopblmjgfaaaW.PrintMore
attribute [local go_sem] max2_int min2_int max_two min_two max_three min_three max_four min_four   -- for this text's walks alone
set_option linter.unusedVariables false
set_option linter.unusedSimpArgs false

/-! ### waveletlaw29_sameSegments: function 26 -/
def waveletlaw29_sameSegments.l0 : Nat → List (S26) → List (S26) → Int → Int → Option (Bool)
  | 0, _, _, _, _ => none
  | k + 1, x0, x1, x12, x13 => if x13 < x12 then (if 0 ≤ x13 then (if x13 < (x0.length : Int) then (if x13 < (x1.length : Int) then ((waveletlaw29_sameSegment.f k ((rd_T26 x0 x13).f0) ((rd_T26 x0 x13).f1) ((rd_T26 x1 x13).f0) ((rd_T26 x1 x13).f1)).bind fun t360 => (if t360 = true then (waveletlaw29_sameSegments.l0 k x0 x1 x12 (wrap64 (x13 + 1))) else (some false))) else (none)) else (none)) else (none)) else (some true)
def waveletlaw29_sameSegments.f (k : Nat) (l0 : List (S26)) (l1 : List (S26)) : Option (Bool) := if (l0.length : Int) = (l1.length : Int) then (waveletlaw29_sameSegments.l0 k l0 l1 (l0.length : Int) 0) else (some false)
theorem waveletlaw29_sameSegments.mono_l : ∀ k, (∀ y0 y1 y2 y3, LeO (waveletlaw29_sameSegments.l0 k y0 y1 y2 y3) (waveletlaw29_sameSegments.l0 (k + 1) y0 y1 y2 y3))
  | 0 => fun _ _ _ _ r h => by simp [waveletlaw29_sameSegments.l0] at h
  | k + 1 => by
    have ih0 := waveletlaw29_sameSegments.mono_l k
    · intro y0 y1 y2 y3
      unfold waveletlaw29_sameSegments.l0
      repeat' first
      | (with_reducible exact ih0 _ _ _ _)
      | (with_reducible exact waveletlaw29_sameSegment.mono _ _ _ _ _)
      | (with_reducible exact LeO.refl _)
      | (with_reducible exact LeO.none _)
      | (with_reducible refine LeO.ite ?_ ?_)
      | (with_reducible refine LeO.bind ?_ (fun _ => ?_))
      | exact ih0 _ _ _ _
      | exact waveletlaw29_sameSegment.mono _ _ _ _ _
      | exact LeO.none _
      | refine LeO.ite ?_ ?_
      | refine LeO.bind ?_ (fun _ => ?_)
theorem waveletlaw29_sameSegments.mono : ∀ a0 a1 k, LeO (waveletlaw29_sameSegments.f k a0 a1) (waveletlaw29_sameSegments.f (k + 1) a0 a1) := by
  intro a0 a1 k
  have ih0 := waveletlaw29_sameSegments.mono_l k
  unfold waveletlaw29_sameSegments.f
  repeat' first
      | (with_reducible exact ih0 _ _ _ _)
      | (with_reducible exact waveletlaw29_sameSegment.mono _ _ _ _ _)
      | (with_reducible exact LeO.refl _)
      | (with_reducible exact LeO.none _)
      | (with_reducible refine LeO.ite ?_ ?_)
      | (with_reducible refine LeO.bind ?_ (fun _ => ?_))
      | exact ih0 _ _ _ _
      | exact waveletlaw29_sameSegment.mono _ _ _ _ _
      | exact LeO.none _
      | refine LeO.ite ?_ ?_
      | refine LeO.bind ?_ (fun _ => ?_)
def waveletlaw29_sameSegments.T6 : Bool × List (List Nat × List Nat) := (true, [([], []), ([], []), ([0, 1], [0, 1]), ([2], [2]), ([], []), ([], []), ([4, 5], [4, 5]), ([6], [6]), ([3, 7], [3, 7]), ([8], [8])])
def waveletlaw29_sameSegments.B6 : List Nat := [0, 0, 3, 7, 0, 0, 48, 112, 255, 511]
theorem waveletlaw29_sameSegments.tab6 : rtab .any (opsOf Try.f26 6) = waveletlaw29_sameSegments.T6 := by kernel_rfl
theorem waveletlaw29_sameSegments.bits6 : waitsOk waveletlaw29_sameSegments.T6.2 waveletlaw29_sameSegments.B6 = true := by kernel_rfl
set_option maxHeartbeats 8000000 in
set_option maxRecDepth 100000 in
theorem waveletlaw29_sameSegments.calls (k : Nat) (A0 : Option Addr) (c0 : Nat) (l0 : List (S26)) (A1 : Option Addr) (c1 : Nat) (l1 : List (S26)) (r : Bool) (w : World) (hr0 : Kd.C k26 w A0 l0.length l0) (hc0 : l0.length ≤ c0) (hr1 : Kd.C k26 w A1 l1.length l1) (hc1 : l1.length ≤ c1) (h : waveletlaw29_sameSegments.f k l0 l1 = some r) :
    Calls Try.prog 26 #[.slice A0 l0.length c0, .slice A1 l1.length c1] w fun e w' => e = .returned (.bool r) ∧ Below w.heap.size w w' := by
  have hu26 := Try.underlying26
  have HR0 := Aside0.mk hr0
  have HC0 := Aside0.mk hc0
  clear hr0 hc0
  have HR1 := Aside0.mk hr1
  have HC1 := Aside0.mk hc1
  clear hr1 hc1
  have HB := Aside0.mk (Below.refl w.heap.size w)
  have H : (if (l0.length : Int) = (l1.length : Int) then (waveletlaw29_sameSegments.l0 k l0 l1 (l0.length : Int) 0) else (some false)) = some r := h
  clear h
  by_cases c3 : (l0.length : Int) = (l1.length : Int)
  · rw [if_pos c3] at H
    have c3b0 : ((l0.length : Int) == (l1.length : Int)) = true := beq_iff_eq.mpr c3
    have c3b1 : ((l0.length : Int) != (l1.length : Int)) = false := bne_eq_false_iff_eq.mpr c3
    have c3b2 : (l0.length == l1.length) = true := by first | simpa using c3 | (simp at c3 ⊢; omega)
    clear c3
    have H' := Aside0.mk H
    clear H
    go_enter Try.func26, Try.ntmps26
    go_wp2
    go_loopg [13] k (fun kq v13 w' => ∃ (x13_1 : Int), v13 = .int .i64 x13_1 ∧ Aside0 (waveletlaw29_sameSegments.l0 kq l0 l1 (l0.length : Int) x13_1 = some r) ∧ Aside0 (kq ≤ k) ∧ Aside0 (Below w.heap.size w w'))
    case atStart => exact ⟨(0), (by first | rfl | (simp; done) | (simp [*]; done)), H', ⟨Nat.le_refl _⟩, ⟨by repeat (first | (with_reducible first | exact HB.out | apply below_alloc | apply pw_below_drewN | apply below_drew1) | exact HB.out)⟩⟩
    case round =>
      clear H'
      try clear c1
      try clear c2
      try clear p2
      try clear c3
      try clear c3b0
      try clear c3b1
      try clear c3b2
      obtain ⟨x13_1, rfl, HA, HK1, HB⟩ := hrel
      cases gk with
      | zero => exact absurd HA.out (by simp [waveletlaw29_sameSegments.l0])
      | succ k1 =>
        have H := HA.out
        clear HA
        simp only [waveletlaw29_sameSegments.l0] at H
        by_cases c4 : x13_1 < (l0.length : Int)
        · rw [if_pos c4] at H
          have c4b0 : decide (x13_1 < (l0.length : Int)) = true := decide_eq_true c4
          clear c4
          by_cases c5 : 0 ≤ x13_1
          · rw [if_pos c5] at H
            have c5b0 : decide (0 ≤ x13_1) = true := decide_eq_true c5
            clear c5
            by_cases c6 : x13_1 < (l0.length : Int)
            · rw [if_pos c6] at H
              have c6b0 : decide (x13_1 < (l0.length : Int)) = true := decide_eq_true c6
              clear c6
              by_cases c7 : x13_1 < (l1.length : Int)
              · rw [if_pos c7] at H
                have c7b0 : decide (x13_1 < (l1.length : Int)) = true := decide_eq_true c7
                clear c7
                replace H := Option.bind_eq_some_iff.mp H
                obtain ⟨t360, A80, H⟩ := H
                replace H : (if t360 = true then (waveletlaw29_sameSegments.l0 k1 l0 l1 (l0.length : Int) (wrap64 (x13_1 + 1))) else (some false)) = some r := H
                have A8 := Aside0.mk A80
                clear A80
                by_cases c9 : t360 = true
                · subst c9
                  have H1 : (waveletlaw29_sameSegments.l0 k1 l0 l1 (l0.length : Int) (wrap64 (x13_1 + 1))) = some r := by rw [if_pos rfl] at H; exact H
                  clear H
                  have H := H1
                  clear H1
                  have H' := Aside0.mk H
                  clear H
                  try go_wp2
                  have n0_ := Aside0.mk (below_drew1 HB.out)
                  clear HB
                  have HB := n0_
                  clear n0_
                  have p358 : 0 ≤ (x13_1 : Int) := of_decide_eq_true (by first | (with_reducible assumption) | assumption)
                  have q358 : x13_1 < (l0.length : Int) := of_decide_eq_true (by first | (with_reducible assumption) | assumption)
                  obtain ⟨ad358, A358_1, c358_1, e358, hx358_0, hx358_1, hl358_1, hi358_1⟩ := at_T26 HR0.out x13_1 p358 q358
                  have hw358_1 := hx358_1
                  have hw358_0 := hx358_0
                  cases e358
                  replace hx358_0 := (HB.out.cell (World.block_lt_of_cell? w _ hx358_0)).trans hx358_0
                  replace hx358_1 := (HB.out.cell (World.block_lt_of_cell? w _ hx358_1)).trans hx358_1
                  have HR358_1 := Aside0.mk hi358_1
                  have HC358_1 := Aside0.mk hl358_1
                  clear hi358_1 hl358_1
                  replace p358 := eq_true p358
                  replace q358 := eq_true q358
                  have p359 : 0 ≤ (x13_1 : Int) := of_decide_eq_true (by first | (with_reducible assumption) | assumption)
                  have q359 : x13_1 < (l1.length : Int) := of_decide_eq_true (by first | (with_reducible assumption) | assumption)
                  obtain ⟨ad359, A359_1, c359_1, e359, hx359_0, hx359_1, hl359_1, hi359_1⟩ := at_T26 HR1.out x13_1 p359 q359
                  have hw359_1 := hx359_1
                  have hw359_0 := hx359_0
                  cases e359
                  replace hx359_0 := (HB.out.cell (World.block_lt_of_cell? w _ hx359_0)).trans hx359_0
                  replace hx359_1 := (HB.out.cell (World.block_lt_of_cell? w _ hx359_1)).trans hx359_1
                  have HR359_1 := Aside0.mk hi359_1
                  have HC359_1 := Aside0.mk hl359_1
                  clear hi359_1 hl359_1
                  replace p359 := eq_true p359
                  replace q359 := eq_true q359
                  refine start_ (n := 10) (S := fun w' => w'.cell? (ad358.add ((x13_1).toNat * 2)) = some (.int .i64 ((rd_T26 l0 x13_1).f0)) ∧ w'.cell? ⟨(ad358.add ((x13_1).toNat * 2)).block, (ad358.add ((x13_1).toNat * 2)).off + 1, none⟩ = some (.slice A358_1 ((rd_T26 l0 x13_1).f1).length c358_1) ∧ w'.cell? (ad359.add ((x13_1).toNat * 2)) = some (.int .i64 ((rd_T26 l1 x13_1).f0)) ∧ w'.cell? ⟨(ad359.add ((x13_1).toNat * 2)).block, (ad359.add ((x13_1).toNat * 2)).off + 1, none⟩ = some (.slice A359_1 ((rd_T26 l1 x13_1).f1).length c359_1)) (ds := []) #[false, false, false, false, false, false, false, false, false, false] (by kernel_rfl) rfl rfl ⟨((HB.out.cell (World.block_lt_of_cell? w _ hw358_0)).trans hw358_0), ((HB.out.cell (World.block_lt_of_cell? w _ hw358_1)).trans hw358_1), ((HB.out.cell (World.block_lt_of_cell? w _ hw359_0)).trans hw359_0), ((HB.out.cell (World.block_lt_of_cell? w _ hw359_1)).trans hw359_1)⟩ (fun hHeld => ?_); refine with_tabW waveletlaw29_sameSegments.tab6 waveletlaw29_sameSegments.bits6 (fun HT_ HW_ => ?_)
                  generalize wr.drew = w10 at HB HR358_1 HR359_1 hx358_0 hx358_1 hx359_0 hx359_1 hHeld ⊢
                  refine pure_ (i := 0) (N := some 16) (v := ?_) (a' := ?_) #[true, false, false, false, false, false, false, false, false, false] rfl rfl (any_of HT_.out (by kernel_rfl)) (fun _ _ _ h => h) (Or.inl ⟨by rfl, ?_⟩) ?_ ?_
                  rotate_left
                  · intro w'
                    go_simp
                    with_reducible rfl
                  rotate_left
                  · simp only [Act.put, List.setIfInBounds_toArray, List.set_cons_zero, List.set_cons_succ, i64_w, i32_w]
                    rfl
                  refine pure_ (i := 1) (N := some 17) (v := ?_) (a' := ?_) #[true, true, false, false, false, false, false, false, false, false] rfl rfl (any_of HT_.out (by kernel_rfl)) (fun _ _ _ h => h) (Or.inl ⟨by rfl, ?_⟩) ?_ ?_
                  rotate_left
                  · intro w'
                    go_simp
                    with_reducible rfl
                  rotate_left
                  · simp only [Act.put, List.setIfInBounds_toArray, List.set_cons_zero, List.set_cons_succ, i64_w, i32_w]
                    rfl
                  refine pure_ (i := 2) (N := some 18) (v := ?_) (a' := ?_) #[true, true, true, false, false, false, false, false, false, false] rfl rfl (any_of HT_.out (by kernel_rfl)) (fun _ _ _ h => h) (Or.inl ⟨by rfl, ?_⟩) ?_ ?_
                  rotate_left
                  · intro w'
                    go_simp
                    with_reducible rfl
                  rotate_left
                  · simp only [Act.put, List.setIfInBounds_toArray, List.set_cons_zero, List.set_cons_succ, i64_w, i32_w]
                    rfl
                  refine pure_ (i := 4) (N := some 20) (v := ?_) (a' := ?_) #[true, true, true, false, true, false, false, false, false, false] rfl rfl (any_of HT_.out (by kernel_rfl)) (fun _ _ _ h => h) (Or.inl ⟨by rfl, ?_⟩) ?_ ?_
                  rotate_left
                  · intro w'
                    go_simp
                    with_reducible rfl
                  rotate_left
                  · simp only [Act.put, List.setIfInBounds_toArray, List.set_cons_zero, List.set_cons_succ, i64_w, i32_w]
                    rfl
                  refine pure_ (i := 5) (N := some 21) (v := ?_) (a' := ?_) #[true, true, true, false, true, true, false, false, false, false] rfl rfl (any_of HT_.out (by kernel_rfl)) (fun _ _ _ h => h) (Or.inl ⟨by rfl, ?_⟩) ?_ ?_
                  rotate_left
                  · intro w'
                    go_simp
                    with_reducible rfl
                  rotate_left
                  · simp only [Act.put, List.setIfInBounds_toArray, List.set_cons_zero, List.set_cons_succ, i64_w, i32_w]
                    rfl
                  refine pure_ (i := 6) (N := some 22) (v := ?_) (a' := ?_) #[true, true, true, false, true, true, true, false, false, false] rfl rfl (any_of HT_.out (by kernel_rfl)) (fun _ _ _ h => h) (Or.inl ⟨by rfl, ?_⟩) ?_ ?_
                  rotate_left
                  · intro w'
                    go_simp
                    with_reducible rfl
                  rotate_left
                  · simp only [Act.put, List.setIfInBounds_toArray, List.set_cons_zero, List.set_cons_succ, i64_w, i32_w]
                    rfl
                  refine take_ (i := 3) (N := some 19) (v := ?_) (a' := ?_) #[true, true, true, true, true, true, true, false, false, false] rfl rfl (take_ofW HT_.out HW_.out (by kernel_rfl)) (fun _ _ _ h => h) (Or.inl ⟨by rfl, ?_⟩) hHeld ?_ ?_
                  rotate_left
                  · rintro w' ⟨s0, s1, s2, s3⟩
                    go_simp
                    with_reducible rfl
                  rotate_left
                  · simp only [Act.put, List.setIfInBounds_toArray, List.set_cons_zero, List.set_cons_succ, i64_w, i32_w]
                    rfl
                  refine take_ (i := 7) (N := some 23) (v := ?_) (a' := ?_) #[true, true, true, true, true, true, true, true, false, false] rfl rfl (take_ofW HT_.out HW_.out (by kernel_rfl)) (fun _ _ _ h => h) (Or.inl ⟨by rfl, ?_⟩) hHeld ?_ ?_
                  rotate_left
                  · rintro w' ⟨s0, s1, s2, s3⟩
                    go_simp
                    with_reducible rfl
                  rotate_left
                  · simp only [Act.put, List.setIfInBounds_toArray, List.set_cons_zero, List.set_cons_succ, i64_w, i32_w]
                    rfl
                  refine one_ (i := 8) (N := some 24) #[true, true, true, true, true, true, true, true, true, false] rfl rfl (one_of HT_.out (by kernel_rfl)) (by decide) (fun K hK => ?_)
                  refine goes_ Try.func17 (by kernel_rfl) rfl #[.agg #[.int .i64 ((rd_T26 l0 x13_1).f0), .slice A358_1 ((rd_T26 l0 x13_1).f1).length c358_1], .agg #[.int .i64 ((rd_T26 l1 x13_1).f0), .slice A359_1 ((rd_T26 l1 x13_1).f1).length c359_1]] (by rfl) rfl rfl (by (try simp only [List.map_toArray, List.map_cons, List.map_nil]); first | done | rfl | (simp only [List.length_drop, List.length_take]; rfl)) ?_
                  with_reducible refine (waveletlaw29_sameSegment.calls k1 ((rd_T26 l0 x13_1).f0) _ _ ((rd_T26 l0 x13_1).f1) ((rd_T26 l1 x13_1).f0) _ _ ((rd_T26 l1 x13_1).f1) true _ ?side1 ?side2 ?side3 ?side4 A8.out).mono ?_
                  (case side1 => repeat (first | exact (Kd.C_below HR358_1.out HB.out) | (with_reducible refine Kd.C_alloc ?_ _) | (with_reducible refine Kd.C_drewN ?_ _) | (with_reducible refine Kd.C_drew ?_)))
                  (case side2 => exact HC358_1.out)
                  (case side3 => repeat (first | exact (Kd.C_below HR359_1.out HB.out) | (with_reducible refine Kd.C_alloc ?_ _) | (with_reducible refine Kd.C_drewN ?_ _) | (with_reducible refine Kd.C_drew ?_)))
                  (case side4 => exact HC359_1.out)
                  rintro e w11 ⟨rfl, hb⟩
                  refine ⟨_, rfl, ?_⟩
                  have n0_ := Aside0.mk (below_step (by repeat (first | (with_reducible first | exact HB.out | apply below_alloc | apply pw_below_drewN | apply below_drew1) | exact HB.out)) hb)
                  clear HB
                  have HB := n0_
                  clear n0_
                  (try clear hb)
                  (try clear hb2)
                  (try clear hk)
                  (try clear hi)
                  refine hK.out _ _ ⟨((HB.out.cell (World.block_lt_of_cell? w _ hw358_0)).trans hw358_0), ((HB.out.cell (World.block_lt_of_cell? w _ hw358_1)).trans hw358_1), ((HB.out.cell (World.block_lt_of_cell? w _ hw359_0)).trans hw359_0), ((HB.out.cell (World.block_lt_of_cell? w _ hw359_1)).trans hw359_1)⟩ (fun hHeld => ?_)
                  clear hK K
                  refine norm_ (a' := ?_) ?_ ?_
                  rotate_left
                  · show Act.put _ (some 24) _ = _
                    simp only [Act.put, List.setIfInBounds_toArray, List.set_cons_zero, List.set_cons_succ, i64_w, i32_w]
                    rfl
                  refine pure_ (i := 9) (N := some 25) (v := ?_) (a' := ?_) #[true, true, true, true, true, true, true, true, true, true] rfl rfl (any_of HT_.out (by kernel_rfl)) (fun _ _ _ h => h) (Or.inl ⟨by rfl, ?_⟩) ?_ ?_
                  rotate_left
                  · intro w'
                    go_simp
                    with_reducible rfl
                  rotate_left
                  · simp only [Act.put, List.setIfInBounds_toArray, List.set_cons_zero, List.set_cons_succ, i64_w, i32_w]
                    rfl
                  refine done_ (done_of HT_.out (by kernel_rfl)) ?_
                  try go_wp2
                  go_roundg k1
                  case measure => have := HK1.out; omega
                  case rel => exact ⟨(wrap64 (x13_1 + 1)), (by first | rfl | (simp; done) | (simp [*]; done)), H', ⟨by have := HK1.out; omega⟩, ⟨by repeat (first | (with_reducible first | exact HB.out | apply below_alloc | apply pw_below_drewN | apply below_drew1) | exact HB.out)⟩⟩
                · replace c9 := Bool.eq_false_iff.mpr c9
                  subst c9
                  have H1 : (some false) = some r := by rw [if_neg (show ¬ (false = true) by decide)] at H; exact H
                  clear H
                  have H := H1
                  clear H1
                  obtain rfl := Option.some.inj H
                  try go_wp2
                  have n0_ := Aside0.mk (below_drew1 HB.out)
                  clear HB
                  have HB := n0_
                  clear n0_
                  have p358 : 0 ≤ (x13_1 : Int) := of_decide_eq_true (by first | (with_reducible assumption) | assumption)
                  have q358 : x13_1 < (l0.length : Int) := of_decide_eq_true (by first | (with_reducible assumption) | assumption)
                  obtain ⟨ad358, A358_1, c358_1, e358, hx358_0, hx358_1, hl358_1, hi358_1⟩ := at_T26 HR0.out x13_1 p358 q358
                  have hw358_1 := hx358_1
                  have hw358_0 := hx358_0
                  cases e358
                  replace hx358_0 := (HB.out.cell (World.block_lt_of_cell? w _ hx358_0)).trans hx358_0
                  replace hx358_1 := (HB.out.cell (World.block_lt_of_cell? w _ hx358_1)).trans hx358_1
                  have HR358_1 := Aside0.mk hi358_1
                  have HC358_1 := Aside0.mk hl358_1
                  clear hi358_1 hl358_1
                  replace p358 := eq_true p358
                  replace q358 := eq_true q358
                  have p359 : 0 ≤ (x13_1 : Int) := of_decide_eq_true (by first | (with_reducible assumption) | assumption)
                  have q359 : x13_1 < (l1.length : Int) := of_decide_eq_true (by first | (with_reducible assumption) | assumption)
                  obtain ⟨ad359, A359_1, c359_1, e359, hx359_0, hx359_1, hl359_1, hi359_1⟩ := at_T26 HR1.out x13_1 p359 q359
                  have hw359_1 := hx359_1
                  have hw359_0 := hx359_0
                  cases e359
                  replace hx359_0 := (HB.out.cell (World.block_lt_of_cell? w _ hx359_0)).trans hx359_0
                  replace hx359_1 := (HB.out.cell (World.block_lt_of_cell? w _ hx359_1)).trans hx359_1
                  have HR359_1 := Aside0.mk hi359_1
                  have HC359_1 := Aside0.mk hl359_1
                  clear hi359_1 hl359_1
                  replace p359 := eq_true p359
                  replace q359 := eq_true q359
                  refine start_ (n := 10) (S := fun w' => w'.cell? (ad358.add ((x13_1).toNat * 2)) = some (.int .i64 ((rd_T26 l0 x13_1).f0)) ∧ w'.cell? ⟨(ad358.add ((x13_1).toNat * 2)).block, (ad358.add ((x13_1).toNat * 2)).off + 1, none⟩ = some (.slice A358_1 ((rd_T26 l0 x13_1).f1).length c358_1) ∧ w'.cell? (ad359.add ((x13_1).toNat * 2)) = some (.int .i64 ((rd_T26 l1 x13_1).f0)) ∧ w'.cell? ⟨(ad359.add ((x13_1).toNat * 2)).block, (ad359.add ((x13_1).toNat * 2)).off + 1, none⟩ = some (.slice A359_1 ((rd_T26 l1 x13_1).f1).length c359_1)) (ds := []) #[false, false, false, false, false, false, false, false, false, false] (by kernel_rfl) rfl rfl ⟨((HB.out.cell (World.block_lt_of_cell? w _ hw358_0)).trans hw358_0), ((HB.out.cell (World.block_lt_of_cell? w _ hw358_1)).trans hw358_1), ((HB.out.cell (World.block_lt_of_cell? w _ hw359_0)).trans hw359_0), ((HB.out.cell (World.block_lt_of_cell? w _ hw359_1)).trans hw359_1)⟩ (fun hHeld => ?_); refine with_tabW waveletlaw29_sameSegments.tab6 waveletlaw29_sameSegments.bits6 (fun HT_ HW_ => ?_)
                  generalize wr.drew = w12 at HB HR358_1 HR359_1 hx358_0 hx358_1 hx359_0 hx359_1 hHeld ⊢
                  refine pure_ (i := 0) (N := some 16) (v := ?_) (a' := ?_) #[true, false, false, false, false, false, false, false, false, false] rfl rfl (any_of HT_.out (by kernel_rfl)) (fun _ _ _ h => h) (Or.inl ⟨by rfl, ?_⟩) ?_ ?_
                  rotate_left
                  · intro w'
                    go_simp
                    with_reducible rfl
                  rotate_left
                  · simp only [Act.put, List.setIfInBounds_toArray, List.set_cons_zero, List.set_cons_succ, i64_w, i32_w]
                    rfl
                  refine pure_ (i := 1) (N := some 17) (v := ?_) (a' := ?_) #[true, true, false, false, false, false, false, false, false, false] rfl rfl (any_of HT_.out (by kernel_rfl)) (fun _ _ _ h => h) (Or.inl ⟨by rfl, ?_⟩) ?_ ?_
                  rotate_left
                  · intro w'
                    go_simp
                    with_reducible rfl
                  rotate_left
                  · simp only [Act.put, List.setIfInBounds_toArray, List.set_cons_zero, List.set_cons_succ, i64_w, i32_w]
                    rfl
                  refine pure_ (i := 2) (N := some 18) (v := ?_) (a' := ?_) #[true, true, true, false, false, false, false, false, false, false] rfl rfl (any_of HT_.out (by kernel_rfl)) (fun _ _ _ h => h) (Or.inl ⟨by rfl, ?_⟩) ?_ ?_
                  rotate_left
                  · intro w'
                    go_simp
                    with_reducible rfl
                  rotate_left
                  · simp only [Act.put, List.setIfInBounds_toArray, List.set_cons_zero, List.set_cons_succ, i64_w, i32_w]
                    rfl
                  refine pure_ (i := 4) (N := some 20) (v := ?_) (a' := ?_) #[true, true, true, false, true, false, false, false, false, false] rfl rfl (any_of HT_.out (by kernel_rfl)) (fun _ _ _ h => h) (Or.inl ⟨by rfl, ?_⟩) ?_ ?_
                  rotate_left
                  · intro w'
                    go_simp
                    with_reducible rfl
                  rotate_left
                  · simp only [Act.put, List.setIfInBounds_toArray, List.set_cons_zero, List.set_cons_succ, i64_w, i32_w]
                    rfl
                  refine pure_ (i := 5) (N := some 21) (v := ?_) (a' := ?_) #[true, true, true, false, true, true, false, false, false, false] rfl rfl (any_of HT_.out (by kernel_rfl)) (fun _ _ _ h => h) (Or.inl ⟨by rfl, ?_⟩) ?_ ?_
                  rotate_left
                  · intro w'
                    go_simp
                    with_reducible rfl
                  rotate_left
                  · simp only [Act.put, List.setIfInBounds_toArray, List.set_cons_zero, List.set_cons_succ, i64_w, i32_w]
                    rfl
                  refine pure_ (i := 6) (N := some 22) (v := ?_) (a' := ?_) #[true, true, true, false, true, true, true, false, false, false] rfl rfl (any_of HT_.out (by kernel_rfl)) (fun _ _ _ h => h) (Or.inl ⟨by rfl, ?_⟩) ?_ ?_
                  rotate_left
                  · intro w'
                    go_simp
                    with_reducible rfl
                  rotate_left
                  · simp only [Act.put, List.setIfInBounds_toArray, List.set_cons_zero, List.set_cons_succ, i64_w, i32_w]
                    rfl
                  refine take_ (i := 3) (N := some 19) (v := ?_) (a' := ?_) #[true, true, true, true, true, true, true, false, false, false] rfl rfl (take_ofW HT_.out HW_.out (by kernel_rfl)) (fun _ _ _ h => h) (Or.inl ⟨by rfl, ?_⟩) hHeld ?_ ?_
                  rotate_left
                  · rintro w' ⟨s0, s1, s2, s3⟩
                    go_simp
                    with_reducible rfl
                  rotate_left
                  · simp only [Act.put, List.setIfInBounds_toArray, List.set_cons_zero, List.set_cons_succ, i64_w, i32_w]
                    rfl
                  refine take_ (i := 7) (N := some 23) (v := ?_) (a' := ?_) #[true, true, true, true, true, true, true, true, false, false] rfl rfl (take_ofW HT_.out HW_.out (by kernel_rfl)) (fun _ _ _ h => h) (Or.inl ⟨by rfl, ?_⟩) hHeld ?_ ?_
                  rotate_left
                  · rintro w' ⟨s0, s1, s2, s3⟩
                    go_simp
                    with_reducible rfl
                  rotate_left
                  · simp only [Act.put, List.setIfInBounds_toArray, List.set_cons_zero, List.set_cons_succ, i64_w, i32_w]
                    rfl
                  refine one_ (i := 8) (N := some 24) #[true, true, true, true, true, true, true, true, true, false] rfl rfl (one_of HT_.out (by kernel_rfl)) (by decide) (fun K hK => ?_)
                  refine goes_ Try.func17 (by kernel_rfl) rfl #[.agg #[.int .i64 ((rd_T26 l0 x13_1).f0), .slice A358_1 ((rd_T26 l0 x13_1).f1).length c358_1], .agg #[.int .i64 ((rd_T26 l1 x13_1).f0), .slice A359_1 ((rd_T26 l1 x13_1).f1).length c359_1]] (by rfl) rfl rfl (by (try simp only [List.map_toArray, List.map_cons, List.map_nil]); first | done | rfl | (simp only [List.length_drop, List.length_take]; rfl)) ?_
                  with_reducible refine (waveletlaw29_sameSegment.calls k1 ((rd_T26 l0 x13_1).f0) _ _ ((rd_T26 l0 x13_1).f1) ((rd_T26 l1 x13_1).f0) _ _ ((rd_T26 l1 x13_1).f1) false _ ?side1 ?side2 ?side3 ?side4 A8.out).mono ?_
                  (case side1 => repeat (first | exact (Kd.C_below HR358_1.out HB.out) | (with_reducible refine Kd.C_alloc ?_ _) | (with_reducible refine Kd.C_drewN ?_ _) | (with_reducible refine Kd.C_drew ?_)))
                  (case side2 => exact HC358_1.out)
                  (case side3 => repeat (first | exact (Kd.C_below HR359_1.out HB.out) | (with_reducible refine Kd.C_alloc ?_ _) | (with_reducible refine Kd.C_drewN ?_ _) | (with_reducible refine Kd.C_drew ?_)))
                  (case side4 => exact HC359_1.out)
                  rintro e w13 ⟨rfl, hb⟩
                  refine ⟨_, rfl, ?_⟩
                  have n0_ := Aside0.mk (below_step (by repeat (first | (with_reducible first | exact HB.out | apply below_alloc | apply pw_below_drewN | apply below_drew1) | exact HB.out)) hb)
                  clear HB
                  have HB := n0_
                  clear n0_
                  (try clear hb)
                  (try clear hb2)
                  (try clear hk)
                  (try clear hi)
                  refine hK.out _ _ ⟨((HB.out.cell (World.block_lt_of_cell? w _ hw358_0)).trans hw358_0), ((HB.out.cell (World.block_lt_of_cell? w _ hw358_1)).trans hw358_1), ((HB.out.cell (World.block_lt_of_cell? w _ hw359_0)).trans hw359_0), ((HB.out.cell (World.block_lt_of_cell? w _ hw359_1)).trans hw359_1)⟩ (fun hHeld => ?_)
                  clear hK K
                  refine norm_ (a' := ?_) ?_ ?_
                  rotate_left
                  · show Act.put _ (some 24) _ = _
                    simp only [Act.put, List.setIfInBounds_toArray, List.set_cons_zero, List.set_cons_succ, i64_w, i32_w]
                    rfl
                  refine pure_ (i := 9) (N := some 25) (v := ?_) (a' := ?_) #[true, true, true, true, true, true, true, true, true, true] rfl rfl (any_of HT_.out (by kernel_rfl)) (fun _ _ _ h => h) (Or.inl ⟨by rfl, ?_⟩) ?_ ?_
                  rotate_left
                  · intro w'
                    go_simp
                    with_reducible rfl
                  rotate_left
                  · simp only [Act.put, List.setIfInBounds_toArray, List.set_cons_zero, List.set_cons_succ, i64_w, i32_w]
                    rfl
                  refine done_ (done_of HT_.out (by kernel_rfl)) ?_
                  try go_wp2
                  go_ret
                  exact ⟨by first | rfl | (simp [errW_none, errW_some] <;> rfl) | (simp [*, errW_none, errW_some] <;> rfl), by repeat (first | (with_reducible first | exact HB.out | apply below_alloc | apply pw_below_drewN | apply below_drew1) | exact HB.out)⟩
              · rw [if_neg c7] at H
                exact absurd H (by simp)
            · rw [if_neg c6] at H
              exact absurd H (by simp)
          · rw [if_neg c5] at H
            exact absurd H (by simp)
        · rw [if_neg c4] at H
          have c4b0 : decide (x13_1 < (l0.length : Int)) = false := decide_eq_false c4
          clear c4
          obtain rfl := Option.some.inj H
          go_wp2
          go_ret
          exact ⟨by first | rfl | (simp [errW_none, errW_some] <;> rfl) | (simp [*, errW_none, errW_some] <;> rfl), by repeat (first | (with_reducible first | exact HB.out | apply below_alloc | apply pw_below_drewN | apply below_drew1) | exact HB.out)⟩
  · rw [if_neg c3] at H
    have c3b0 : ((l0.length : Int) == (l1.length : Int)) = false := beq_eq_false_iff_ne.mpr c3
    have c3b1 : ((l0.length : Int) != (l1.length : Int)) = true := bne_iff_ne.mpr c3
    have c3b2 : (l0.length == l1.length) = false := by first | simpa using c3 | (simp at c3 ⊢; omega)
    obtain rfl := Option.some.inj H
    go_enter Try.func26, Try.ntmps26
    go_wp2
    go_ret
    exact ⟨by first | rfl | (simp [errW_none, errW_some] <;> rfl) | (simp [*, errW_none, errW_some] <;> rfl), by repeat (first | (with_reducible first | exact HB.out | apply below_alloc | apply pw_below_drewN | apply below_drew1) | exact HB.out)⟩

end Go.Proofs.Ytihfopblmjgfaaa.Q

/- Printed walk, shortened (wip/tools/unmerge.py). -/
namespace Go.Proofs.Ytihfopblmjgfaaa.Q
open Go.RowKit Go.Proofs.YtihfopblmjgfaaaW.PrintWords Go.Proofs.YtihfopblmjgfaaaW.PrintLast Go.Proofs.YtihfopblmjgfaaaW.PrintMore
attribute [local go_sem] max2_int min2_int max_two min_two max_three min_three max_four min_four   -- for this text's walks alone
set_option linter.unusedVariables false
set_option linter.unusedSimpArgs false

/-! ### headseg_Size: function 37 -/
mutual
def headseg_Size.l0 : Nat → List Int → List Int → Int → Int → Int → Int → Int → Int → Int → Int → List (S97) → Option (Int × List Int × Int)
  | 0, _, _, _, _, _, _, _, _, _, _, _ => none
  | k + 1, x5, x33, x34, x35, x799000, x799001, x799002, x799003, x799004, x799005, x799006 => if x35 < x34 then (if 0 ≤ x35 then (if x35 < (x33.length : Int) then ((headseg_put.f k x5 2 (rd x33 x35)).bind fun t805 => (headseg_Size.l0 k t805 x33 x34 (wrap64 (x35 + 1)) x799000 x799001 x799002 x799003 x799004 x799005 x799006)) else (none)) else (none)) else ((headseg_put.f k x5 1 (x799006.length : Int)).bind fun t808 => (headseg_Size.l1 k t808 x799006 (x799006.length : Int) 0))
def headseg_Size.l1 : Nat → List Int → List (S97) → Int → Int → Option (Int × List Int × Int)
  | 0, _, _, _, _ => none
  | k + 1, x5, x49, x50, x51 => if x51 < x50 then (if 0 ≤ x51 then (if x51 < (x49.length : Int) then (if (rd_T97 x49 x51).f1 = true then ((some (([(wrap64 ((wrap64 (((rd_T97 x49 x51).f0) - 1)) + 128)) % 256, ((rd_T97 x49 x51).f2) % 256, ((rd_T97 x49 x51).f3) % 256] : List Int) : List Int)).bind fun y813 => (if x5.length + y813.length < 140737488355328 then (headseg_Size.l1 k (x5 ++ y813) x49 x50 (wrap64 (x51 + 1))) else (none))) else ((some (([(wrap64 (((rd_T97 x49 x51).f0) - 1)) % 256, ((rd_T97 x49 x51).f2) % 256, ((rd_T97 x49 x51).f3) % 256] : List Int) : List Int)).bind fun y819 => (if x5.length + y819.length < 140737488355328 then (headseg_Size.l1 k (x5 ++ y819) x49 x50 (wrap64 (x51 + 1))) else (none)))) else (none)) else (none)) else (some (65441, x5, 0))
end
def headseg_Size.f (k : Nat) (a0_0 : Int) (a0_1 : Int) (a0_2 : Int) (a0_3 : Int) (a0_4 : Int) (a0_5 : Int) (l0_6 : List (S97)) : Option (Int × List Int × Int) := (params_Header.f k a0_0 a0_1 a0_2 a0_3 a0_4 a0_5 l0_6).bind fun t800 => (if t800 = 0 then ((some (([a0_0, a0_1, a0_2, a0_3, a0_4, a0_5] : List Int) : List Int)).bind fun y801 => (headseg_Size.l0 k ([] : List Int) y801 (y801.length : Int) 0 a0_0 a0_1 a0_2 a0_3 a0_4 a0_5 l0_6)) else (some (0, ([] : List Int), t800)))
theorem headseg_Size.mono_l : ∀ k, (∀ y0 y1 y2 y3 y4 y5 y6 y7 y8 y9 y10, LeO (headseg_Size.l0 k y0 y1 y2 y3 y4 y5 y6 y7 y8 y9 y10) (headseg_Size.l0 (k + 1) y0 y1 y2 y3 y4 y5 y6 y7 y8 y9 y10)) ∧ (∀ y0 y1 y2 y3, LeO (headseg_Size.l1 k y0 y1 y2 y3) (headseg_Size.l1 (k + 1) y0 y1 y2 y3))
  | 0 => ⟨fun _ _ _ _ _ _ _ _ _ _ _ r h => by simp [headseg_Size.l0] at h, fun _ _ _ _ r h => by simp [headseg_Size.l1] at h⟩
  | k + 1 => by
    obtain ⟨ih0, ih1⟩ := headseg_Size.mono_l k
    refine ⟨?_, ?_⟩
    · intro y0 y1 y2 y3 y4 y5 y6 y7 y8 y9 y10
      unfold headseg_Size.l0
      repeat' first
      | (with_reducible exact ih0 _ _ _ _ _ _ _ _ _ _ _)
      | (with_reducible exact ih1 _ _ _ _)
      | (with_reducible exact headseg_put.mono _ _ _ _)
      | (with_reducible exact params_Header.mono _ _ _ _ _ _ _ _)
      | (with_reducible exact LeO.refl _)
      | (with_reducible exact LeO.none _)
      | (with_reducible refine LeO.ite ?_ ?_)
      | (with_reducible refine LeO.bind ?_ (fun _ => ?_))
      | exact ih0 _ _ _ _ _ _ _ _ _ _ _
      | exact ih1 _ _ _ _
      | exact headseg_put.mono _ _ _ _
      | exact params_Header.mono _ _ _ _ _ _ _ _
      | exact LeO.none _
      | refine LeO.ite ?_ ?_
      | refine LeO.bind ?_ (fun _ => ?_)
    · intro y0 y1 y2 y3
      unfold headseg_Size.l1
      repeat' first
      | (with_reducible exact ih0 _ _ _ _ _ _ _ _ _ _ _)
      | (with_reducible exact ih1 _ _ _ _)
      | (with_reducible exact headseg_put.mono _ _ _ _)
      | (with_reducible exact params_Header.mono _ _ _ _ _ _ _ _)
      | (with_reducible exact LeO.refl _)
      | (with_reducible exact LeO.none _)
      | (with_reducible refine LeO.ite ?_ ?_)
      | (with_reducible refine LeO.bind ?_ (fun _ => ?_))
      | exact ih0 _ _ _ _ _ _ _ _ _ _ _
      | exact ih1 _ _ _ _
      | exact headseg_put.mono _ _ _ _
      | exact params_Header.mono _ _ _ _ _ _ _ _
      | exact LeO.none _
      | refine LeO.ite ?_ ?_
      | refine LeO.bind ?_ (fun _ => ?_)
theorem headseg_Size.mono : ∀ a0 a1 a2 a3 a4 a5 a6 k, LeO (headseg_Size.f k a0 a1 a2 a3 a4 a5 a6) (headseg_Size.f (k + 1) a0 a1 a2 a3 a4 a5 a6) := by
  intro a0 a1 a2 a3 a4 a5 a6 k
  obtain ⟨ih0, ih1⟩ := headseg_Size.mono_l k
  unfold headseg_Size.f
  repeat' first
      | (with_reducible exact ih0 _ _ _ _ _ _ _ _ _ _ _)
      | (with_reducible exact ih1 _ _ _ _)
      | (with_reducible exact headseg_put.mono _ _ _ _)
      | (with_reducible exact params_Header.mono _ _ _ _ _ _ _ _)
      | (with_reducible exact LeO.refl _)
      | (with_reducible exact LeO.none _)
      | (with_reducible refine LeO.ite ?_ ?_)
      | (with_reducible refine LeO.bind ?_ (fun _ => ?_))
      | exact ih0 _ _ _ _ _ _ _ _ _ _ _
      | exact ih1 _ _ _ _
      | exact headseg_put.mono _ _ _ _
      | exact params_Header.mono _ _ _ _ _ _ _ _
      | exact LeO.none _
      | refine LeO.ite ?_ ?_
      | refine LeO.bind ?_ (fun _ => ?_)
set_option maxHeartbeats 8000000 in
set_option maxRecDepth 100000 in
theorem headseg_Size.calls (k : Nat) (a0_0 : Int) (a0_1 : Int) (a0_2 : Int) (a0_3 : Int) (a0_4 : Int) (a0_5 : Int) (A0_6 : Option Addr) (c0_6 : Nat) (l0_6 : List (S97)) (r1 : Int) (r2 : List Int) (r3 : Int) (w : World) (hr0_6 : Kd.C k97 w A0_6 l0_6.length l0_6) (hc0_6 : l0_6.length ≤ c0_6) (h : headseg_Size.f k a0_0 a0_1 a0_2 a0_3 a0_4 a0_5 l0_6 = some (r1, r2, r3)) :
    Calls Try.prog 37 #[.agg #[.int .i64 a0_0, .int .i64 a0_1, .int .i64 a0_2, .int .i64 a0_3, .int .i64 a0_4, .int .i64 a0_5, .slice A0_6 l0_6.length c0_6]] w fun e w' => ∃ v1_ : Value, e = .returned (.tuple #[.agg #[.int .i64 r1, v1_], .int .i64 r3]) ∧ Kd.R (Kd.int .u8) 5 w' w.heap.size (fun _ => True) v1_ r2 ∧ Below w.heap.size w w' := by
  have hu67 := Try.underlying67
  have hu26 := Try.underlying26
  have hu97 := Try.underlying97
  have HR0_6 := Aside0.mk hr0_6
  have HC0_6 := Aside0.mk hc0_6
  clear hr0_6 hc0_6
  have HB := Aside0.mk (Below.refl w.heap.size w)
  have H : ((params_Header.f k a0_0 a0_1 a0_2 a0_3 a0_4 a0_5 l0_6).bind fun t800 => (if t800 = 0 then ((some (([a0_0, a0_1, a0_2, a0_3, a0_4, a0_5] : List Int) : List Int)).bind fun y801 => (headseg_Size.l0 k ([] : List Int) y801 (y801.length : Int) 0 a0_0 a0_1 a0_2 a0_3 a0_4 a0_5 l0_6)) else (some (0, ([] : List Int), t800)))) = some (r1, r2, r3) := h
  clear h
  replace H := Option.bind_eq_some_iff.mp H
  obtain ⟨t800, A20, H⟩ := H
  replace H : (if t800 = 0 then ((some (([a0_0, a0_1, a0_2, a0_3, a0_4, a0_5] : List Int) : List Int)).bind fun y801 => (headseg_Size.l0 k ([] : List Int) y801 (y801.length : Int) 0 a0_0 a0_1 a0_2 a0_3 a0_4 a0_5 l0_6)) else (some (0, ([] : List Int), t800))) = some (r1, r2, r3) := H
  have A2 := Aside0.mk A20
  clear A20
  by_cases c3 : t800 = 0
  · rw [if_pos c3] at H
    have c3b0 : (t800 == 0) = true := beq_iff_eq.mpr c3
    have c3b1 : (t800 != 0) = false := bne_eq_false_iff_eq.mpr c3
    clear c3
    obtain ⟨y801, hy801⟩ : ∃ y_ : List Int, y_ = (([a0_0, a0_1, a0_2, a0_3, a0_4, a0_5] : List Int)) := ⟨_, rfl⟩
    replace H : (headseg_Size.l0 k ([] : List Int) y801 (y801.length : Int) 0 a0_0 a0_1 a0_2 a0_3 a0_4 a0_5 l0_6) = some (r1, r2, r3) := by first | (rw [hy801]; with_reducible exact H) | (have H2_ := (Option.bind_some _ _).symm.trans H; rw [hy801]; with_reducible exact H2_) | (have H2_ := (Option.bind_some _ _).symm.trans H; with_reducible exact H2_) | with_reducible exact H | (rw [hy801]; exact H) | exact H
    have Ny801 := Aside0.mk hy801
    clear hy801
    have H' := Aside0.mk H
    clear H
    go_enter Try.func37, Try.ntmps37
    go_wp2_with (first | ((with_reducible refine gate_dst (N := 1) rfl ?_); refine box_event ?hg (N := 1) ?hd (cs := #[.int .i64 a0_0, .int .i64 a0_1, .int .i64 a0_2, .int .i64 a0_3, .int .i64 a0_4, .int .i64 a0_5, .slice A0_6 l0_6.length c0_6]) (t := 67) ?hr ?_; (case hd => rfl); (case hg => rfl); (case hr => first | (go_simp; done) | (go_simp; rfl)); intro gb798 hg w4 hbox hb; have BK798 := Aside0.mk (hbox); have GW798 := Aside0.mk ((by rw [hg]; exact (below_size (upB HB.out)) : w.heap.size ≤ gb798)); have GE798 := Aside0.mk ((by rw [hg]; exact (below_size (upB HB.out)) : w.heap.size ≤ gb798)); replace HB := Aside0.mk (below_step (upB HB.out) hb); clear hb hbox hg) | ((with_reducible refine gate_dst (N := 2) rfl ?_); refine box_event ?hg (N := 2) ?hd (cs := #[.int .i64 0, .slice none 0 0]) (t := 26) ?hr ?_; (case hd => rfl); (case hg => rfl); (case hr => first | (go_simp; done) | (go_simp; rfl)); intro gb799 hg w5 hbox hb; have BK799 := Aside0.mk (hbox); have GW799 := Aside0.mk ((by rw [hg]; exact (below_size (upB HB.out)) : w.heap.size ≤ gb799)); have GE799 := Aside0.mk ((by rw [hg]; exact (below_size (upB HB.out)) : w.heap.size ≤ gb799)); replace HB := Aside0.mk (below_step (upB HB.out) hb); have NB798_799 := Aside0.mk ((by rw [hg]; exact Nat.ne_of_lt (blk_lt (upK BK798.out)) : gb798 ≠ gb799)); have NB799_798 := Aside0.mk ((by rw [hg]; exact Nat.ne_of_gt (blk_lt (upK BK798.out)) : gb799 ≠ gb798)); replace BK798 := Aside0.mk (blk_below (g := gb798) (o := .cells #[.int .i64 a0_0, .int .i64 a0_1, .int .i64 a0_2, .int .i64 a0_3, .int .i64 a0_4, .int .i64 a0_5, .slice A0_6 l0_6.length c0_6] 67 (0, 0)) (upK BK798.out) hb); clear hb hbox hg; have hnb6 := NB798_799.out; have hnc6 := NB799_798.out; have hcz7_0 : w5.cell? ⟨gb798, 0, none⟩ = some (.int .i64 a0_0) := bc BK798 0; have hcz7_1 : w5.cell? ⟨gb798, 1, none⟩ = some (.int .i64 a0_1) := bc BK798 1; have hcz7_2 : w5.cell? ⟨gb798, 2, none⟩ = some (.int .i64 a0_2) := bc BK798 2; have hcz7_3 : w5.cell? ⟨gb798, 3, none⟩ = some (.int .i64 a0_3) := bc BK798 3; have hcz7_4 : w5.cell? ⟨gb798, 4, none⟩ = some (.int .i64 a0_4) := bc BK798 4; have hcz7_5 : w5.cell? ⟨gb798, 5, none⟩ = some (.int .i64 a0_5) := bc BK798 5; have hcz7_6 : w5.cell? ⟨gb798, 6, none⟩ = some (.slice A0_6 l0_6.length c0_6) := bc BK798 6; have hfz7_0 := blk_frozen BK798.out 0; have hfz7_1 := blk_frozen BK798.out 1; have hfz7_2 := blk_frozen BK798.out 2; have hfz7_3 := blk_frozen BK798.out 3; have hfz7_4 := blk_frozen BK798.out 4; have hfz7_5 := blk_frozen BK798.out 5; have hfz7_6 := blk_frozen BK798.out 6) | ((with_reducible refine gate_callee (f := 60) rfl ?_); refine goesL_ (some 12) rfl rfl Try.func60 (by kernel_rfl) rfl #[.agg #[.int .i64 a0_0, .int .i64 a0_1, .int .i64 a0_2, .int .i64 a0_3, .int .i64 a0_4, .int .i64 a0_5, .slice A0_6 l0_6.length c0_6]] rfl upL ?_; (with_reducible refine (params_Header.calls k a0_0 a0_1 a0_2 a0_3 a0_4 a0_5 _ _ l0_6 t800 _ ?side1 ?side2 A2.out).mono ?_); (case side1 => repeat (first | exact (Kd.C_below HR0_6.out HB.out) | (with_reducible refine Kd.C_alloc ?_ _) | (with_reducible refine Kd.C_drewN ?_ _) | (with_reducible refine Kd.C_drew ?_))); (case side2 => exact HC0_6.out); rintro e w8 ⟨rfl, hb⟩; refine ⟨_, rfl, ?_⟩; replace BK798 := Aside0.mk (blk_below (g := gb798) (o := .cells #[.int .i64 a0_0, .int .i64 a0_1, .int .i64 a0_2, .int .i64 a0_3, .int .i64 a0_4, .int .i64 a0_5, .slice A0_6 l0_6.length c0_6] 67 (0, 0)) (upK BK798.out) hb); replace BK799 := Aside0.mk (blk_below (g := gb799) (o := .cells #[.int .i64 0, .slice none 0 0] 26 (0, 0)) (upK BK799.out) hb); replace HB := Aside0.mk (below_step (upB HB.out) hb); (try clear hb; try clear hb2; try clear hk; try clear hi); have hcz9_0 : w8.cell? ⟨gb798, 0, none⟩ = some (.int .i64 a0_0) := bc BK798 0; have hcz9_1 : w8.cell? ⟨gb798, 1, none⟩ = some (.int .i64 a0_1) := bc BK798 1; have hcz9_2 : w8.cell? ⟨gb798, 2, none⟩ = some (.int .i64 a0_2) := bc BK798 2; have hcz9_3 : w8.cell? ⟨gb798, 3, none⟩ = some (.int .i64 a0_3) := bc BK798 3; have hcz9_4 : w8.cell? ⟨gb798, 4, none⟩ = some (.int .i64 a0_4) := bc BK798 4; have hcz9_5 : w8.cell? ⟨gb798, 5, none⟩ = some (.int .i64 a0_5) := bc BK798 5; have hcz9_6 : w8.cell? ⟨gb798, 6, none⟩ = some (.slice A0_6 l0_6.length c0_6) := bc BK798 6; have hfz9_0 := blk_frozen BK798.out 0; have hfz9_1 := blk_frozen BK798.out 1; have hfz9_2 := blk_frozen BK798.out 2; have hfz9_3 := blk_frozen BK798.out 3; have hfz9_4 := blk_frozen BK798.out 4; have hfz9_5 := blk_frozen BK798.out 5; have hfz9_6 := blk_frozen BK798.out 6) | ((with_reducible refine gate_dst (N := 33) rfl ?_); refine Kd.R_lit (Kd.int .i64) _ 3 ?hg (N := 33) ?hd (xs := ([a0_0, a0_1, a0_2, a0_3, a0_4, a0_5] : List Int)) (inner := [.int .i64 a0_0, .int .i64 a0_1, .int .i64 a0_2, .int .i64 a0_3, .int .i64 a0_4, .int .i64 a0_5]) (ok := fun _ => True) (okp := fun _ => True) ?hr ?hp (fun _ hk => hk) trivial (Below.refl _ _) (Nat.le_refl _) (by simp) ?_; (case hd => rfl); (case hg => rfl); (case hr => first | (go_simp; done) | (go_simp; rfl)); (case hp => exact (Reps.one (show Kd.M (Kd.int .i64) _ _ _ a0_0 [.int .i64 a0_0] from rfl) (Reps.one (show Kd.M (Kd.int .i64) _ _ _ a0_1 [.int .i64 a0_1] from rfl) (Reps.one (show Kd.M (Kd.int .i64) _ _ _ a0_2 [.int .i64 a0_2] from rfl) (Reps.one (show Kd.M (Kd.int .i64) _ _ _ a0_3 [.int .i64 a0_3] from rfl) (Reps.one (show Kd.M (Kd.int .i64) _ _ _ a0_4 [.int .i64 a0_4] from rfl) (Reps.one (show Kd.M (Kd.int .i64) _ _ _ a0_5 [.int .i64 a0_5] from rfl) (Reps.none _ _)))))))); intro v802 w10 ho11 hb hg_ hnew_; clear hg_ hnew_; (first | rw [← Ny801.out] at ho11 | (simp only [Int.reduceToNat] at ho11; rw [← Ny801.out] at ho11)); have HO803 := Aside0.mk (Kd.R_lower ho11 (below_size (upB HB.out))); replace BK798 := Aside0.mk (blk_below (g := gb798) (o := .cells #[.int .i64 a0_0, .int .i64 a0_1, .int .i64 a0_2, .int .i64 a0_3, .int .i64 a0_4, .int .i64 a0_5, .slice A0_6 l0_6.length c0_6] 67 (0, 0)) (upK BK798.out) hb); replace BK799 := Aside0.mk (blk_below (g := gb799) (o := .cells #[.int .i64 0, .slice none 0 0] 26 (0, 0)) (upK BK799.out) hb); replace HB := Aside0.mk (below_step (upB HB.out) hb); clear hb ho11; obtain ⟨Ao12, co12, eo12⟩ := Kd.R_slice HO803.out; subst eo12))
    go_loopg [5, 35] k (fun kq v5 v35 w' => ∃ (x5_1 : List Int) (x35_1 : Int), v35 = .int .i64 x35_1 ∧ Aside0 (headseg_Size.l0 kq x5_1 y801 (y801.length : Int) x35_1 a0_0 a0_1 a0_2 a0_3 a0_4 a0_5 l0_6 = some (r1, r2, r3)) ∧ Aside0 (kq ≤ k) ∧ Aside0 (Kd.R (Kd.int .u8) 5 w' w.heap.size (fun _ => True) v5 x5_1) ∧ Aside0 (Kd.R (Kd.int .i64) 3 w' w.heap.size (fun _ => True) (.slice Ao12 y801.length co12) y801) ∧ Aside0 (w'.heap[gb798]? = some (.cells #[.int .i64 a0_0, .int .i64 a0_1, .int .i64 a0_2, .int .i64 a0_3, .int .i64 a0_4, .int .i64 a0_5, (.slice A0_6 l0_6.length c0_6)] 67 (0, 0))) ∧ Aside0 (w'.heap[gb799]? = some (.cells #[.int .i64 0, (.slice none 0 0)] 26 (0, 0))) ∧ Aside0 (Below w.heap.size w w'))
    case atStart => exact ⟨(([] : List Int)), (0), (by first | rfl | (simp; done) | (simp [*]; done)), H', ⟨Nat.le_refl _⟩, ⟨by first | exact Kd.R_nil _ _ _ _ _ | exact Kd.N_nil _ _ _ _ _ | exact Kd.V_nil _ _ _ _ _ | exact Kd.Q_nil _ _ _ _ _ | exact Kd.S_nil _ _ _ _ _⟩, ⟨by (with_reducible repeat (first | apply Kd.R_alloc | apply Kd.R_drewN | apply Kd.R_drew)); exact HO803.out⟩, ⟨by (with_reducible repeat (first | refine blk_drewN ?_ _ | refine blk_drew ?_ | refine blk_alloc ?_ _)); exact BK798.out⟩, ⟨by (with_reducible repeat (first | refine blk_drewN ?_ _ | refine blk_drew ?_ | refine blk_alloc ?_ _)); exact BK799.out⟩, ⟨by repeat (first | (with_reducible first | exact HB.out | apply below_alloc | apply pw_below_drewN | apply below_drew1 | refine below_set ?_ GE798.out | refine below_set ?_ GE799.out) | exact HB.out)⟩⟩
    case round =>
      clear H'
      try clear p2
      try clear c3
      try clear c3b0
      try clear c3b1
      try clear c6
      try clear hcz7_0
      try clear hcz7_1
      try clear hcz7_2
      try clear hcz7_3
      try clear hcz7_4
      try clear hcz7_5
      try clear hcz7_6
      try clear hcz9_0
      try clear hcz9_1
      try clear hcz9_2
      try clear hcz9_3
      try clear hcz9_4
      try clear hcz9_5
      try clear hcz9_6
      try clear hfz7_0
      try clear hfz7_1
      try clear hfz7_2
      try clear hfz7_3
      try clear hfz7_4
      try clear hfz7_5
      try clear hfz7_6
      try clear hfz9_0
      try clear hfz9_1
      try clear hfz9_2
      try clear hfz9_3
      try clear hfz9_4
      try clear hfz9_5
      try clear hfz9_6
      obtain ⟨x5_1, x35_1, rfl, HA, HK1, HO_5, HO_33, BK798, BK799, HB⟩ := hrel
      cases gk with
      | zero => exact absurd HA.out (by simp [headseg_Size.l0])
      | succ k1 =>
        have H := HA.out
        clear HA
        simp only [headseg_Size.l0] at H
        by_cases c13 : x35_1 < (y801.length : Int)
        · rw [if_pos c13] at H
          have c13b0 : decide (x35_1 < (y801.length : Int)) = true := decide_eq_true c13
          clear c13
          by_cases c14 : 0 ≤ x35_1
          · rw [if_pos c14] at H
            have c14b0 : decide (0 ≤ x35_1) = true := decide_eq_true c14
            clear c14
            by_cases c15 : x35_1 < (y801.length : Int)
            · rw [if_pos c15] at H
              have c15b0 : decide (x35_1 < (y801.length : Int)) = true := decide_eq_true c15
              clear c15
              replace H := Option.bind_eq_some_iff.mp H
              obtain ⟨t805, A160, H⟩ := H
              replace H : (headseg_Size.l0 k1 t805 y801 (y801.length : Int) (wrap64 (x35_1 + 1)) a0_0 a0_1 a0_2 a0_3 a0_4 a0_5 l0_6) = some (r1, r2, r3) := H
              have A16 := Aside0.mk A160
              clear A160
              have H' := Aside0.mk H
              clear H
              have p804 : 0 ≤ (x35_1 : Int) := of_decide_eq_true (by first | (with_reducible assumption) | assumption)
              have q804 : x35_1 < (y801.length : Int) := of_decide_eq_true (by first | (with_reducible assumption) | assumption)
              obtain ⟨ad804, e804, hx804_0⟩ := Kd.at_int (Kd.R_reads' HO_33.out).2.2 x35_1 p804 q804
              cases e804
              replace p804 := eq_true p804
              replace q804 := eq_true q804
              obtain ⟨Ao17, co17, eo17⟩ := Kd.R_slice HO_5.out
              subst eo17
              go_wp2_with (first | ((with_reducible refine gate_callee (f := 44) rfl ?_); refine goesL_ (some 41) rfl rfl Try.func44 (by kernel_rfl) rfl #[.slice Ao17 x5_1.length co17, .int .i64 2, .int .i64 (rd y801 x35_1)] rfl upL ?_; (with_reducible refine (headseg_put.calls k1 (fun k_ => some k_ = (.slice Ao17 x5_1.length co17 : Value).ownBlock) (.slice Ao17 x5_1.length co17) x5_1 2 (rd y801 x35_1) t805 w _ ?side1 ?side2 A16.out).mono ?_); (case side1 => repeat (first | (with_reducible first | exact HB.out | apply below_alloc | apply pw_below_drewN | apply below_drew1 | refine below_set ?_ GE798.out | refine below_set ?_ GE799.out) | exact HB.out)); (case side2 => exact Kd.R_tight rfl HO_5.out); rintro e w18 ⟨v806, rfl, ho0, hb, hkp⟩; refine ⟨_, rfl, ?_⟩; have n0_ := Aside0.mk (Kd.R_mono (ok' := fun k_ => True) (Kd.R_keptB ((Kd.R_apart' HO_33.out (Kd.R_typed HO_5.out) (by decide))) hkp (fun k_ hk_ hs_ => (hk_.2) hs_)) (fun k_ hk_ => trivial)); have n1_ := Aside0.mk (blk_kept (upK BK798.out) hkp (fun hs_ => (fun e_ => (Kd.R_ne HO_5.out BK798.out (by decide)) e_) hs_)); have n2_ := Aside0.mk (blk_kept (upK BK799.out) hkp (fun hs_ => (fun e_ => (Kd.R_ne HO_5.out BK799.out (by decide)) e_) hs_)); have n3_ := Aside0.mk (Kd.R_mono (ok' := fun k_ => True) ho0 (fun k_ hk_ => trivial)); have n4_ := Aside0.mk (hb); clear HO_33 BK798 BK799 HB HO_5; have HO_33 := n0_; have BK798 := n1_; have BK799 := n2_; have HO807 := n3_; have HB := n4_; clear n0_ n1_ n2_ n3_ n4_; (try clear hb; try clear hkp; try clear ho0)))
              go_roundg k1
              case measure => have := HK1.out; omega
              case rel => exact ⟨(t805), (wrap64 (x35_1 + 1)), (by first | rfl | (simp; done) | (simp [*]; done)), H', ⟨by have := HK1.out; omega⟩, ⟨by (with_reducible repeat (first | apply Kd.R_alloc | apply Kd.R_drewN | apply Kd.R_drew)); exact HO807.out⟩, ⟨by (with_reducible repeat (first | apply Kd.R_alloc | apply Kd.R_drewN | apply Kd.R_drew)); exact HO_33.out⟩, ⟨by (with_reducible repeat (first | refine blk_drewN ?_ _ | refine blk_drew ?_ | refine blk_alloc ?_ _)); exact BK798.out⟩, ⟨by (with_reducible repeat (first | refine blk_drewN ?_ _ | refine blk_drew ?_ | refine blk_alloc ?_ _)); exact BK799.out⟩, ⟨by repeat (first | (with_reducible first | exact HB.out | apply below_alloc | apply pw_below_drewN | apply below_drew1 | refine below_set ?_ GE798.out | refine below_set ?_ GE799.out) | exact HB.out)⟩⟩
            · rw [if_neg c15] at H
              exact absurd H (by simp)
          · rw [if_neg c14] at H
            exact absurd H (by simp)
        · rw [if_neg c13] at H
          have c13b0 : decide (x35_1 < (y801.length : Int)) = false := decide_eq_false c13
          clear c13
          replace H := Option.bind_eq_some_iff.mp H
          obtain ⟨t808, A190, H⟩ := H
          replace H : (headseg_Size.l1 k1 t808 l0_6 (l0_6.length : Int) 0) = some (r1, r2, r3) := H
          have A19 := Aside0.mk A190
          clear A190
          have H' := Aside0.mk H
          clear H
          have hnb20 := NB798_799.out
          have hnc20 := NB799_798.out
          have hcz21_0 : wr.cell? ⟨gb798, 0, none⟩ = some (.int .i64 a0_0) := bc BK798 0
          have hcz21_1 : wr.cell? ⟨gb798, 1, none⟩ = some (.int .i64 a0_1) := bc BK798 1
          have hcz21_2 : wr.cell? ⟨gb798, 2, none⟩ = some (.int .i64 a0_2) := bc BK798 2
          have hcz21_3 : wr.cell? ⟨gb798, 3, none⟩ = some (.int .i64 a0_3) := bc BK798 3
          have hcz21_4 : wr.cell? ⟨gb798, 4, none⟩ = some (.int .i64 a0_4) := bc BK798 4
          have hcz21_5 : wr.cell? ⟨gb798, 5, none⟩ = some (.int .i64 a0_5) := bc BK798 5
          have hcz21_6 : wr.cell? ⟨gb798, 6, none⟩ = some (.slice A0_6 l0_6.length c0_6) := bc BK798 6
          have hfz21_0 := blk_frozen BK798.out 0
          have hfz21_1 := blk_frozen BK798.out 1
          have hfz21_2 := blk_frozen BK798.out 2
          have hfz21_3 := blk_frozen BK798.out 3
          have hfz21_4 := blk_frozen BK798.out 4
          have hfz21_5 := blk_frozen BK798.out 5
          have hfz21_6 := blk_frozen BK798.out 6
          obtain ⟨Ao22, co22, eo22⟩ := Kd.R_slice HO_5.out
          subst eo22
          go_wp2_with (first | ((with_reducible refine gate_callee (f := 44) rfl ?_); refine goesL_ (some 47) rfl rfl Try.func44 (by kernel_rfl) rfl #[.slice Ao22 x5_1.length co22, .int .i64 1, .int .i64 (l0_6.length : Int)] rfl upL ?_; (with_reducible refine (headseg_put.calls k1 (fun k_ => some k_ = (.slice Ao22 x5_1.length co22 : Value).ownBlock) (.slice Ao22 x5_1.length co22) x5_1 1 (l0_6.length : Int) t808 w _ ?side1 ?side2 A19.out).mono ?_); (case side1 => repeat (first | (with_reducible first | exact HB.out | apply below_alloc | apply pw_below_drewN | apply below_drew1 | refine below_set ?_ GE798.out | refine below_set ?_ GE799.out) | exact HB.out)); (case side2 => exact Kd.R_tight rfl HO_5.out); rintro e w23 ⟨v809, rfl, ho0, hb, hkp⟩; refine ⟨_, rfl, ?_⟩; have n0_ := Aside0.mk (Kd.R_mono (ok' := fun k_ => True) (Kd.R_keptB ((Kd.R_apart' HO_33.out (Kd.R_typed HO_5.out) (by decide))) hkp (fun k_ hk_ hs_ => (hk_.2) hs_)) (fun k_ hk_ => trivial)); have n1_ := Aside0.mk (blk_kept (upK BK798.out) hkp (fun hs_ => (fun e_ => (Kd.R_ne HO_5.out BK798.out (by decide)) e_) hs_)); have n2_ := Aside0.mk (blk_kept (upK BK799.out) hkp (fun hs_ => (fun e_ => (Kd.R_ne HO_5.out BK799.out (by decide)) e_) hs_)); have n3_ := Aside0.mk (Kd.R_mono (ok' := fun k_ => True) ho0 (fun k_ hk_ => trivial)); have n4_ := Aside0.mk (hb); clear HO_33 BK798 BK799 HB HO_5; have HO_33 := n0_; have BK798 := n1_; have BK799 := n2_; have HO810 := n3_; have HB := n4_; clear n0_ n1_ n2_ n3_ n4_; (try clear hb; try clear hkp; try clear ho0); have hcz24_0 : w23.cell? ⟨gb798, 0, none⟩ = some (.int .i64 a0_0) := bc BK798 0; have hcz24_1 : w23.cell? ⟨gb798, 1, none⟩ = some (.int .i64 a0_1) := bc BK798 1; have hcz24_2 : w23.cell? ⟨gb798, 2, none⟩ = some (.int .i64 a0_2) := bc BK798 2; have hcz24_3 : w23.cell? ⟨gb798, 3, none⟩ = some (.int .i64 a0_3) := bc BK798 3; have hcz24_4 : w23.cell? ⟨gb798, 4, none⟩ = some (.int .i64 a0_4) := bc BK798 4; have hcz24_5 : w23.cell? ⟨gb798, 5, none⟩ = some (.int .i64 a0_5) := bc BK798 5; have hcz24_6 : w23.cell? ⟨gb798, 6, none⟩ = some (.slice A0_6 l0_6.length c0_6) := bc BK798 6; have hfz24_0 := blk_frozen BK798.out 0; have hfz24_1 := blk_frozen BK798.out 1; have hfz24_2 := blk_frozen BK798.out 2; have hfz24_3 := blk_frozen BK798.out 3; have hfz24_4 := blk_frozen BK798.out 4; have hfz24_5 := blk_frozen BK798.out 5; have hfz24_6 := blk_frozen BK798.out 6))
          go_loopg [5, 51] k1 (fun kq v5 v51 w' => ∃ (x5_2 : List Int) (x51_2 : Int), v51 = .int .i64 x51_2 ∧ Aside0 (headseg_Size.l1 kq x5_2 l0_6 (l0_6.length : Int) x51_2 = some (r1, r2, r3)) ∧ Aside0 (kq ≤ k1) ∧ Aside0 (Kd.R (Kd.int .u8) 5 w' w.heap.size (fun _ => True) v5 x5_2) ∧ Aside0 (w'.heap[gb798]? = some (.cells #[.int .i64 a0_0, .int .i64 a0_1, .int .i64 a0_2, .int .i64 a0_3, .int .i64 a0_4, .int .i64 a0_5, (.slice A0_6 l0_6.length c0_6)] 67 (0, 0))) ∧ Aside0 (w'.heap[gb799]? = some (.cells #[.int .i64 0, (.slice none 0 0)] 26 (0, 0))) ∧ Aside0 (Below w.heap.size w w'))
          case atStart => exact ⟨(t808), (0), (by first | rfl | (simp; done) | (simp [*]; done)), H', ⟨Nat.le_refl _⟩, ⟨by (with_reducible repeat (first | apply Kd.R_alloc | apply Kd.R_drewN | apply Kd.R_drew)); exact HO810.out⟩, ⟨by (with_reducible repeat (first | refine blk_drewN ?_ _ | refine blk_drew ?_ | refine blk_alloc ?_ _)); exact BK798.out⟩, ⟨by (with_reducible repeat (first | refine blk_drewN ?_ _ | refine blk_drew ?_ | refine blk_alloc ?_ _)); exact BK799.out⟩, ⟨by repeat (first | (with_reducible first | exact HB.out | apply below_alloc | apply pw_below_drewN | apply below_drew1 | refine below_set ?_ GE798.out | refine below_set ?_ GE799.out) | exact HB.out)⟩⟩
          case round =>
            clear H'
            try clear c1
            try clear c2
            try clear p2
            try clear c3
            try clear c3b0
            try clear c3b1
            try clear c4
            try clear c6
            try clear p6
            try clear p8
            try clear q8
            try clear hx8
            try clear c13
            try clear c13b0
            try clear c14
            try clear c14b0
            try clear c15
            try clear c15b0
            try clear c20
            try clear hcz21_0
            try clear hcz21_1
            try clear hcz21_2
            try clear hcz21_3
            try clear hcz21_4
            try clear hcz21_5
            try clear hcz21_6
            try clear hcz24_0
            try clear hcz24_1
            try clear hcz24_2
            try clear hcz24_3
            try clear hcz24_4
            try clear hcz24_5
            try clear hcz24_6
            try clear hcz7_0
            try clear hcz7_1
            try clear hcz7_2
            try clear hcz7_3
            try clear hcz7_4
            try clear hcz7_5
            try clear hcz7_6
            try clear hcz9_0
            try clear hcz9_1
            try clear hcz9_2
            try clear hcz9_3
            try clear hcz9_4
            try clear hcz9_5
            try clear hcz9_6
            try clear hfz21_0
            try clear hfz21_1
            try clear hfz21_2
            try clear hfz21_3
            try clear hfz21_4
            try clear hfz21_5
            try clear hfz21_6
            try clear hfz24_0
            try clear hfz24_1
            try clear hfz24_2
            try clear hfz24_3
            try clear hfz24_4
            try clear hfz24_5
            try clear hfz24_6
            try clear hfz7_0
            try clear hfz7_1
            try clear hfz7_2
            try clear hfz7_3
            try clear hfz7_4
            try clear hfz7_5
            try clear hfz7_6
            try clear hfz9_0
            try clear hfz9_1
            try clear hfz9_2
            try clear hfz9_3
            try clear hfz9_4
            try clear hfz9_5
            try clear hfz9_6
            try clear hx804_0
            try clear p2
            try clear p804
            try clear q804
            obtain ⟨x5_2, x51_2, rfl, HA, HK2, HO_5, BK798, BK799, HB⟩ := hrel
            cases gk with
            | zero => exact absurd HA.out (by simp [headseg_Size.l1])
            | succ k2 =>
              have H := HA.out
              clear HA
              simp only [headseg_Size.l1] at H
              by_cases c25 : x51_2 < (l0_6.length : Int)
              · rw [if_pos c25] at H
                have c25b0 : decide (x51_2 < (l0_6.length : Int)) = true := decide_eq_true c25
                clear c25
                by_cases c26 : 0 ≤ x51_2
                · rw [if_pos c26] at H
                  have c26b0 : decide (0 ≤ x51_2) = true := decide_eq_true c26
                  clear c26
                  by_cases c27 : x51_2 < (l0_6.length : Int)
                  · rw [if_pos c27] at H
                    have c27b0 : decide (x51_2 < (l0_6.length : Int)) = true := decide_eq_true c27
                    clear c27
                    obtain ⟨bq28, hbq28⟩ : ∃ b_ : Bool, b_ = ((rd_T97 l0_6 x51_2).f1) := ⟨_, rfl⟩
                    replace H : (if bq28 = true then ((some (([(wrap64 ((wrap64 (((rd_T97 l0_6 x51_2).f0) - 1)) + 128)) % 256, ((rd_T97 l0_6 x51_2).f2) % 256, ((rd_T97 l0_6 x51_2).f3) % 256] : List Int) : List Int)).bind fun y813 => (if x5_2.length + y813.length < 140737488355328 then (headseg_Size.l1 k2 (x5_2 ++ y813) l0_6 (l0_6.length : Int) (wrap64 (x51_2 + 1))) else (none))) else ((some (([(wrap64 (((rd_T97 l0_6 x51_2).f0) - 1)) % 256, ((rd_T97 l0_6 x51_2).f2) % 256, ((rd_T97 l0_6 x51_2).f3) % 256] : List Int) : List Int)).bind fun y819 => (if x5_2.length + y819.length < 140737488355328 then (headseg_Size.l1 k2 (x5_2 ++ y819) l0_6 (l0_6.length : Int) (wrap64 (x51_2 + 1))) else (none)))) = some (r1, r2, r3) := by rw [← hbq28] at H; exact H
                    have Nbq28 := Aside0.mk hbq28
                    clear hbq28
                    by_cases c29 : bq28 = true
                    · subst c29
                      have H1 : ((some (([(wrap64 ((wrap64 (((rd_T97 l0_6 x51_2).f0) - 1)) + 128)) % 256, ((rd_T97 l0_6 x51_2).f2) % 256, ((rd_T97 l0_6 x51_2).f3) % 256] : List Int) : List Int)).bind fun y813 => (if x5_2.length + y813.length < 140737488355328 then (headseg_Size.l1 k2 (x5_2 ++ y813) l0_6 (l0_6.length : Int) (wrap64 (x51_2 + 1))) else (none))) = some (r1, r2, r3) := by rw [if_pos rfl] at H; exact H
                      clear H
                      have H := H1
                      clear H1
                      obtain ⟨y813, hy813⟩ : ∃ y_ : List Int, y_ = (([(wrap64 ((wrap64 (((rd_T97 l0_6 x51_2).f0) - 1)) + 128)) % 256, ((rd_T97 l0_6 x51_2).f2) % 256, ((rd_T97 l0_6 x51_2).f3) % 256] : List Int)) := ⟨_, rfl⟩
                      replace H : (if x5_2.length + y813.length < 140737488355328 then (headseg_Size.l1 k2 (x5_2 ++ y813) l0_6 (l0_6.length : Int) (wrap64 (x51_2 + 1))) else (none)) = some (r1, r2, r3) := by first | (rw [hy813]; with_reducible exact H) | (have H2_ := (Option.bind_some _ _).symm.trans H; rw [hy813]; with_reducible exact H2_) | (have H2_ := (Option.bind_some _ _).symm.trans H; with_reducible exact H2_) | with_reducible exact H | (rw [hy813]; exact H) | exact H
                      have Ny813 := Aside0.mk hy813
                      clear hy813
                      by_cases c30 : x5_2.length + y813.length < 140737488355328
                      · rw [if_pos c30] at H
                        have LMc30 := Aside0.mk c30
                        clear c30
                        obtain ⟨y816, hy816⟩ : ∃ y_ : List Int, y_ = (x5_2 ++ y813) := ⟨_, rfl⟩
                        replace H : (headseg_Size.l1 k2 y816 l0_6 (l0_6.length : Int) (wrap64 (x51_2 + 1))) = some (r1, r2, r3) := by first | (rw [hy816]; with_reducible exact H) | (have H2_ := (Option.bind_some _ _).symm.trans H; rw [hy816]; with_reducible exact H2_) | (have H2_ := (Option.bind_some _ _).symm.trans H; with_reducible exact H2_) | with_reducible exact H | (rw [hy816]; exact H) | exact H
                        have Ny816 := Aside0.mk hy816
                        clear hy816
                        have H' := Aside0.mk H
                        clear H
                        have p811 : 0 ≤ (x51_2 : Int) := of_decide_eq_true (by first | (with_reducible assumption) | assumption)
                        have q811 : x51_2 < (l0_6.length : Int) := of_decide_eq_true (by first | (with_reducible assumption) | assumption)
                        obtain ⟨ad811, e811, hx811_0, hx811_1, hx811_2, hx811_3⟩ := at_T97 HR0_6.out x51_2 p811 q811
                        (try rw [← Nbq28.out] at hx811_1)
                        cases e811
                        replace hx811_0 := hc HB hx811_0
                        replace hx811_1 := hc HB hx811_1
                        replace hx811_2 := hc HB hx811_2
                        replace hx811_3 := hc HB hx811_3
                        replace p811 := eq_true p811
                        replace q811 := eq_true q811
                        go_wp2_with (first | ((with_reducible refine gate_dst (N := 9) rfl ?_); refine box_event ?hg (N := 9) ?hd (cs := #[.int .i64 0, .bool false, .int .i64 0, .int .i64 0]) (t := 97) ?hr ?_; (case hd => rfl); (case hg => rfl); (case hr => first | (go_simp; done) | (go_simp; rfl)); intro gb812 hg w31 hbox hb; replace HO_5 := Aside0.mk (Kd.R_below (upR HO_5.out) hb); have BK812 := Aside0.mk (hbox); have GW812 := Aside0.mk ((by rw [hg]; exact (below_size (upB HB.out)) : w.heap.size ≤ gb812)); have GE812 := Aside0.mk ((by rw [hg]; exact (below_size (upB HB.out)) : w.heap.size ≤ gb812)); replace HB := Aside0.mk (below_step (upB HB.out) hb); have NB798_812 := Aside0.mk ((by rw [hg]; exact Nat.ne_of_lt (blk_lt (upK BK798.out)) : gb798 ≠ gb812)); have NB812_798 := Aside0.mk ((by rw [hg]; exact Nat.ne_of_gt (blk_lt (upK BK798.out)) : gb812 ≠ gb798)); replace BK798 := Aside0.mk (blk_below (g := gb798) (o := .cells #[.int .i64 a0_0, .int .i64 a0_1, .int .i64 a0_2, .int .i64 a0_3, .int .i64 a0_4, .int .i64 a0_5, .slice (some ad811) l0_6.length c0_6] 67 (0, 0)) (upK BK798.out) hb); have NB799_812 := Aside0.mk ((by rw [hg]; exact Nat.ne_of_lt (blk_lt (upK BK799.out)) : gb799 ≠ gb812)); have NB812_799 := Aside0.mk ((by rw [hg]; exact Nat.ne_of_gt (blk_lt (upK BK799.out)) : gb812 ≠ gb799)); replace BK799 := Aside0.mk (blk_below (g := gb799) (o := .cells #[.int .i64 0, .slice none 0 0] 26 (0, 0)) (upK BK799.out) hb); clear hb hbox hg; have hnb32 := NB812_798.out; have hnc32 := NB798_812.out; have hnb33 := NB812_799.out; have hnc33 := NB799_812.out; have hcz34_0 : w31.cell? ⟨gb812, 0, none⟩ = some (.int .i64 0) := bc BK812 0; have hcz34_1 : w31.cell? ⟨gb812, 1, none⟩ = some (.bool false) := bc BK812 1; have hcz34_2 : w31.cell? ⟨gb812, 2, none⟩ = some (.int .i64 0) := bc BK812 2; have hcz34_3 : w31.cell? ⟨gb812, 3, none⟩ = some (.int .i64 0) := bc BK812 3; have hfz34_0 := blk_frozen BK812.out 0; have hfz34_1 := blk_frozen BK812.out 1; have hfz34_2 := blk_frozen BK812.out 2; have hfz34_3 := blk_frozen BK812.out 3) | ((with_reducible refine gate_dst (N := 71) rfl ?_); refine Kd.R_lit (Kd.int .u8) _ 5 ?hg (N := 71) ?hd (xs := ([(wrap64 ((wrap64 (((rd_T97 l0_6 x51_2).f0) - 1)) + 128)) % 256, ((rd_T97 l0_6 x51_2).f2) % 256, ((rd_T97 l0_6 x51_2).f3) % 256] : List Int)) (inner := [.int .u8 ((wrap64 ((wrap64 (((rd_T97 l0_6 x51_2).f0) - 1)) + 128)) % 256), .int .u8 (((rd_T97 l0_6 x51_2).f2) % 256), .int .u8 (((rd_T97 l0_6 x51_2).f3) % 256)]) (ok := fun _ => True) (okp := fun _ => True) ?hr ?hp (fun _ hk => hk) trivial (Below.refl _ _) (Nat.le_refl _) (by simp) ?_; (case hd => rfl); (case hg => rfl); (case hr => first | (go_simp; done) | (go_simp; rfl)); (case hp => exact (Reps.one (show Kd.M (Kd.int .u8) _ _ _ ((wrap64 ((wrap64 (((rd_T97 l0_6 x51_2).f0) - 1)) + 128)) % 256) [.int .u8 ((wrap64 ((wrap64 (((rd_T97 l0_6 x51_2).f0) - 1)) + 128)) % 256)] from rfl) (Reps.one (show Kd.M (Kd.int .u8) _ _ _ (((rd_T97 l0_6 x51_2).f2) % 256) [.int .u8 (((rd_T97 l0_6 x51_2).f2) % 256)] from rfl) (Reps.one (show Kd.M (Kd.int .u8) _ _ _ (((rd_T97 l0_6 x51_2).f3) % 256) [.int .u8 (((rd_T97 l0_6 x51_2).f3) % 256)] from rfl) (Reps.none _ _))))); intro v814 w35 ho36 hb hg_ hnew_; clear hg_ hnew_; (first | rw [← Ny813.out] at ho36 | (simp only [Int.reduceToNat] at ho36; rw [← Ny813.out] at ho36)); have HO815 := Aside0.mk (Kd.R_lower (Kd.R_new' ho36 (Kd.R_lt (by (with_reducible repeat (first | apply Kd.R_alloc | apply Kd.R_drewN | apply Kd.R_drew)); exact (Kd.R_mono (Kd.R_far (Kd.R_far (Kd.R_far (Kd.R_far (Kd.R_types HO_5.out BK812.out (by decide)) (fun _ hk => hk.2) (.int .i64 ((rd_T97 l0_6 x51_2).f0))) (fun _ hk => hk.2) _) (fun _ hk => hk.2) (.int .i64 ((rd_T97 l0_6 x51_2).f2))) (fun _ hk => hk.2) (.int .i64 ((rd_T97 l0_6 x51_2).f3))) (fun _ h_ => h_.1))))) (below_size (upB HB.out))); replace HO_5 := Aside0.mk (Kd.R_elder' (by (with_reducible repeat (first | apply Kd.R_alloc | apply Kd.R_drewN | apply Kd.R_drew)); exact (Kd.R_mono (Kd.R_far (Kd.R_far (Kd.R_far (Kd.R_far (Kd.R_types HO_5.out BK812.out (by decide)) (fun _ hk => hk.2) (.int .i64 ((rd_T97 l0_6 x51_2).f0))) (fun _ hk => hk.2) _) (fun _ hk => hk.2) (.int .i64 ((rd_T97 l0_6 x51_2).f2))) (fun _ hk => hk.2) (.int .i64 ((rd_T97 l0_6 x51_2).f3))) (fun _ h_ => h_.1))) (Kd.R_base ho36) hb); replace BK798 := Aside0.mk (blk_below (g := gb798) (o := .cells #[.int .i64 a0_0, .int .i64 a0_1, .int .i64 a0_2, .int .i64 a0_3, .int .i64 a0_4, .int .i64 a0_5, .slice (some ad811) l0_6.length c0_6] 67 (0, 0)) (by (with_reducible repeat (first | refine blk_far ?_ NB798_812.out _ | refine blk_drewN ?_ _ | refine blk_drew ?_ | refine blk_alloc ?_ _)); exact BK798.out) hb); replace BK799 := Aside0.mk (blk_below (g := gb799) (o := .cells #[.int .i64 0, .slice none 0 0] 26 (0, 0)) (by (with_reducible repeat (first | refine blk_far ?_ NB799_812.out _ | refine blk_drewN ?_ _ | refine blk_drew ?_ | refine blk_alloc ?_ _)); exact BK799.out) hb); replace BK812 := Aside0.mk (blk_below (g := gb812) (o := .cells #[.int .i64 ((rd_T97 l0_6 x51_2).f0), .bool true, .int .i64 ((rd_T97 l0_6 x51_2).f2), .int .i64 ((rd_T97 l0_6 x51_2).f3)] 97 (0, 0)) (by (with_reducible repeat (first | refine blk_drewN ?_ _ | refine blk_drew ?_ | refine blk_alloc ?_ _)); refine blk_put (cs := #[.int .i64 ((rd_T97 l0_6 x51_2).f0), .bool true, .int .i64 ((rd_T97 l0_6 x51_2).f2), .int .i64 0]) ?_ 3 _ rfl; (with_reducible repeat (first | refine blk_drewN ?_ _ | refine blk_drew ?_ | refine blk_alloc ?_ _)); refine blk_put (cs := #[.int .i64 ((rd_T97 l0_6 x51_2).f0), .bool true, .int .i64 0, .int .i64 0]) ?_ 2 _ rfl; (with_reducible repeat (first | refine blk_drewN ?_ _ | refine blk_drew ?_ | refine blk_alloc ?_ _)); refine blk_put (cs := #[.int .i64 ((rd_T97 l0_6 x51_2).f0), .bool false, .int .i64 0, .int .i64 0]) ?_ 1 _ rfl; (with_reducible repeat (first | refine blk_drewN ?_ _ | refine blk_drew ?_ | refine blk_alloc ?_ _)); refine blk_put (cs := #[.int .i64 0, .bool false, .int .i64 0, .int .i64 0]) ?_ 0 _ rfl; (with_reducible repeat (first | refine blk_drewN ?_ _ | refine blk_drew ?_ | refine blk_alloc ?_ _)); exact BK812.out) hb); replace HB := Aside0.mk (below_step (upB HB.out) hb); clear hb ho36; obtain ⟨Ao38, co38, eo38⟩ := Kd.R_slice HO815.out; subst eo38) | ((with_reducible refine gate_builtin (b := .append) (xs := #[.tmp 62, .tmp 71]) rfl ?_); at_builtin; refine Kd.R_append_rows (Kd.int .u8) (w0 := w) w.heap.size rfl (.tmp 62) (.tmp 71) 24 5 (.int .u8 0) 1 rfl Try.underlying24 info5 rfl (by decide) (by omega) u5 x5_2 y813 _ _ _ (fun k_ => some k_ ≠ (.slice Ao38 y813.length co38 : Value).ownBlock) (fun _ => False) rfl rfl ?aO ?aR (fun _ _ h => h) (fun _ h => h.elim) ?aF ?aB ?aS ?aL ?_; (case aR => repeat (first | exact (Kd.R_reads' HO815.out).2.2 | (with_reducible refine Kd.C_alloc ?_ _) | (with_reducible refine Kd.C_drewN ?_ _) | (with_reducible refine Kd.C_drew ?_))); (case aB => exact (upB HB.out)); (case aF => exact (fun k_ hk => Kd.fresh' (Kd.R_lt (upR HO815.out)) k_ hk)); (case aO => exact (by (with_reducible repeat (first | apply Kd.R_alloc | apply Kd.R_drewN | apply Kd.R_drew)); exact Kd.R_mono HO_5.out (fun _ hk => hk.2))); (case aS => exact (below_size (upB HB.out))); (case aL => have := LMc30.out; omega); intro v817 w37 ho hb hg hat; rw [← Ny816.out] at ho; have n0_ := Aside0.mk (blk_grown (g := gb798) (o := .cells #[.int .i64 a0_0, .int .i64 a0_1, .int .i64 a0_2, .int .i64 a0_3, .int .i64 a0_4, .int .i64 a0_5, .slice (some ad811) l0_6.length c0_6] 67 (0, 0)) (upK BK798.out) hg (Kd.R_ne HO_5.out BK798.out (by decide))); have n1_ := Aside0.mk (blk_grown (g := gb799) (o := .cells #[.int .i64 0, .slice none 0 0] 26 (0, 0)) (upK BK799.out) hg (Kd.R_ne HO_5.out BK799.out (by decide))); have n2_ := Aside0.mk (blk_grown (g := gb812) (o := .cells #[.int .i64 ((rd_T97 l0_6 x51_2).f0), .bool true, .int .i64 ((rd_T97 l0_6 x51_2).f2), .int .i64 ((rd_T97 l0_6 x51_2).f3)] 97 (0, 0)) (upK BK812.out) hg (Kd.R_ne HO_5.out BK812.out (by decide))); have n3_ := Aside0.mk (Kd.R_after (ok := (fun _ => True)) (upR HO815.out) hg hat); have n4_ := Aside0.mk (hb); have n5_ := Aside0.mk (ho); clear BK798 BK799 BK812 HO815 HB HO_5; have BK798 := n0_; have BK799 := n1_; have BK812 := n2_; have HO815 := n3_; have HB := n4_; have HO818 := n5_; clear n0_ n1_ n2_ n3_ n4_ n5_; clear ho hb hg hat))
                        go_roundg k2
                        case measure => have := HK1.out; have := HK2.out; omega
                        case rel => exact ⟨(y816), (wrap64 (x51_2 + 1)), (by first | rfl | (simp; done) | (simp [*]; done)), H', ⟨by have := HK1.out; have := HK2.out; omega⟩, ⟨by (with_reducible repeat (first | apply Kd.R_alloc | apply Kd.R_drewN | apply Kd.R_drew)); exact Kd.R_mono HO818.out (fun _ hk => trivial)⟩, ⟨by (with_reducible repeat (first | refine blk_drewN ?_ _ | refine blk_drew ?_ | refine blk_alloc ?_ _)); exact BK798.out⟩, ⟨by (with_reducible repeat (first | refine blk_drewN ?_ _ | refine blk_drew ?_ | refine blk_alloc ?_ _)); exact BK799.out⟩, ⟨by repeat (first | (with_reducible first | exact HB.out | apply below_alloc | apply pw_below_drewN | apply below_drew1 | refine below_set ?_ GE798.out | refine below_set ?_ GE799.out | refine below_set ?_ GE812.out) | exact HB.out)⟩⟩
                      · rw [if_neg c30] at H
                        exact absurd H (by simp)
                    · replace c29 := Bool.eq_false_iff.mpr c29
                      subst c29
                      have H1 : ((some (([(wrap64 (((rd_T97 l0_6 x51_2).f0) - 1)) % 256, ((rd_T97 l0_6 x51_2).f2) % 256, ((rd_T97 l0_6 x51_2).f3) % 256] : List Int) : List Int)).bind fun y819 => (if x5_2.length + y819.length < 140737488355328 then (headseg_Size.l1 k2 (x5_2 ++ y819) l0_6 (l0_6.length : Int) (wrap64 (x51_2 + 1))) else (none))) = some (r1, r2, r3) := by rw [if_neg (show ¬ (false = true) by decide)] at H; exact H
                      clear H
                      have H := H1
                      clear H1
                      obtain ⟨y819, hy819⟩ : ∃ y_ : List Int, y_ = (([(wrap64 (((rd_T97 l0_6 x51_2).f0) - 1)) % 256, ((rd_T97 l0_6 x51_2).f2) % 256, ((rd_T97 l0_6 x51_2).f3) % 256] : List Int)) := ⟨_, rfl⟩
                      replace H : (if x5_2.length + y819.length < 140737488355328 then (headseg_Size.l1 k2 (x5_2 ++ y819) l0_6 (l0_6.length : Int) (wrap64 (x51_2 + 1))) else (none)) = some (r1, r2, r3) := by first | (rw [hy819]; with_reducible exact H) | (have H2_ := (Option.bind_some _ _).symm.trans H; rw [hy819]; with_reducible exact H2_) | (have H2_ := (Option.bind_some _ _).symm.trans H; with_reducible exact H2_) | with_reducible exact H | (rw [hy819]; exact H) | exact H
                      have Ny819 := Aside0.mk hy819
                      clear hy819
                      by_cases c39 : x5_2.length + y819.length < 140737488355328
                      · rw [if_pos c39] at H
                        have LMc39 := Aside0.mk c39
                        clear c39
                        obtain ⟨y822, hy822⟩ : ∃ y_ : List Int, y_ = (x5_2 ++ y819) := ⟨_, rfl⟩
                        replace H : (headseg_Size.l1 k2 y822 l0_6 (l0_6.length : Int) (wrap64 (x51_2 + 1))) = some (r1, r2, r3) := by first | (rw [hy822]; with_reducible exact H) | (have H2_ := (Option.bind_some _ _).symm.trans H; rw [hy822]; with_reducible exact H2_) | (have H2_ := (Option.bind_some _ _).symm.trans H; with_reducible exact H2_) | with_reducible exact H | (rw [hy822]; exact H) | exact H
                        have Ny822 := Aside0.mk hy822
                        clear hy822
                        have H' := Aside0.mk H
                        clear H
                        have p811 : 0 ≤ (x51_2 : Int) := of_decide_eq_true (by first | (with_reducible assumption) | assumption)
                        have q811 : x51_2 < (l0_6.length : Int) := of_decide_eq_true (by first | (with_reducible assumption) | assumption)
                        obtain ⟨ad811, e811, hx811_0, hx811_1, hx811_2, hx811_3⟩ := at_T97 HR0_6.out x51_2 p811 q811
                        (try rw [← Nbq28.out] at hx811_1)
                        cases e811
                        replace hx811_0 := hc HB hx811_0
                        replace hx811_1 := hc HB hx811_1
                        replace hx811_2 := hc HB hx811_2
                        replace hx811_3 := hc HB hx811_3
                        replace p811 := eq_true p811
                        replace q811 := eq_true q811
                        go_wp2_with (first | ((with_reducible refine gate_dst (N := 9) rfl ?_); refine box_event ?hg (N := 9) ?hd (cs := #[.int .i64 0, .bool false, .int .i64 0, .int .i64 0]) (t := 97) ?hr ?_; (case hd => rfl); (case hg => rfl); (case hr => first | (go_simp; done) | (go_simp; rfl)); intro gb812 hg w40 hbox hb; replace HO_5 := Aside0.mk (Kd.R_below (upR HO_5.out) hb); have BK812 := Aside0.mk (hbox); have GW812 := Aside0.mk ((by rw [hg]; exact (below_size (upB HB.out)) : w.heap.size ≤ gb812)); have GE812 := Aside0.mk ((by rw [hg]; exact (below_size (upB HB.out)) : w.heap.size ≤ gb812)); replace HB := Aside0.mk (below_step (upB HB.out) hb); have NB798_812 := Aside0.mk ((by rw [hg]; exact Nat.ne_of_lt (blk_lt (upK BK798.out)) : gb798 ≠ gb812)); have NB812_798 := Aside0.mk ((by rw [hg]; exact Nat.ne_of_gt (blk_lt (upK BK798.out)) : gb812 ≠ gb798)); replace BK798 := Aside0.mk (blk_below (g := gb798) (o := .cells #[.int .i64 a0_0, .int .i64 a0_1, .int .i64 a0_2, .int .i64 a0_3, .int .i64 a0_4, .int .i64 a0_5, .slice (some ad811) l0_6.length c0_6] 67 (0, 0)) (upK BK798.out) hb); have NB799_812 := Aside0.mk ((by rw [hg]; exact Nat.ne_of_lt (blk_lt (upK BK799.out)) : gb799 ≠ gb812)); have NB812_799 := Aside0.mk ((by rw [hg]; exact Nat.ne_of_gt (blk_lt (upK BK799.out)) : gb812 ≠ gb799)); replace BK799 := Aside0.mk (blk_below (g := gb799) (o := .cells #[.int .i64 0, .slice none 0 0] 26 (0, 0)) (upK BK799.out) hb); clear hb hbox hg; have hnb41 := NB812_798.out; have hnc41 := NB798_812.out; have hnb42 := NB812_799.out; have hnc42 := NB799_812.out; have hcz43_0 : w40.cell? ⟨gb812, 0, none⟩ = some (.int .i64 0) := bc BK812 0; have hcz43_1 : w40.cell? ⟨gb812, 1, none⟩ = some (.bool false) := bc BK812 1; have hcz43_2 : w40.cell? ⟨gb812, 2, none⟩ = some (.int .i64 0) := bc BK812 2; have hcz43_3 : w40.cell? ⟨gb812, 3, none⟩ = some (.int .i64 0) := bc BK812 3; have hfz43_0 := blk_frozen BK812.out 0; have hfz43_1 := blk_frozen BK812.out 1; have hfz43_2 := blk_frozen BK812.out 2; have hfz43_3 := blk_frozen BK812.out 3) | ((with_reducible refine gate_dst (N := 71) rfl ?_); refine Kd.R_lit (Kd.int .u8) _ 5 ?hg (N := 71) ?hd (xs := ([(wrap64 (((rd_T97 l0_6 x51_2).f0) - 1)) % 256, ((rd_T97 l0_6 x51_2).f2) % 256, ((rd_T97 l0_6 x51_2).f3) % 256] : List Int)) (inner := [.int .u8 ((wrap64 (((rd_T97 l0_6 x51_2).f0) - 1)) % 256), .int .u8 (((rd_T97 l0_6 x51_2).f2) % 256), .int .u8 (((rd_T97 l0_6 x51_2).f3) % 256)]) (ok := fun _ => True) (okp := fun _ => True) ?hr ?hp (fun _ hk => hk) trivial (Below.refl _ _) (Nat.le_refl _) (by simp) ?_; (case hd => rfl); (case hg => rfl); (case hr => first | (go_simp; done) | (go_simp; rfl)); (case hp => exact (Reps.one (show Kd.M (Kd.int .u8) _ _ _ ((wrap64 (((rd_T97 l0_6 x51_2).f0) - 1)) % 256) [.int .u8 ((wrap64 (((rd_T97 l0_6 x51_2).f0) - 1)) % 256)] from rfl) (Reps.one (show Kd.M (Kd.int .u8) _ _ _ (((rd_T97 l0_6 x51_2).f2) % 256) [.int .u8 (((rd_T97 l0_6 x51_2).f2) % 256)] from rfl) (Reps.one (show Kd.M (Kd.int .u8) _ _ _ (((rd_T97 l0_6 x51_2).f3) % 256) [.int .u8 (((rd_T97 l0_6 x51_2).f3) % 256)] from rfl) (Reps.none _ _))))); intro v820 w44 ho45 hb hg_ hnew_; clear hg_ hnew_; (first | rw [← Ny819.out] at ho45 | (simp only [Int.reduceToNat] at ho45; rw [← Ny819.out] at ho45)); have HO821 := Aside0.mk (Kd.R_lower (Kd.R_new' ho45 (Kd.R_lt (by (with_reducible repeat (first | apply Kd.R_alloc | apply Kd.R_drewN | apply Kd.R_drew)); exact (Kd.R_mono (Kd.R_far (Kd.R_far (Kd.R_far (Kd.R_far (Kd.R_types HO_5.out BK812.out (by decide)) (fun _ hk => hk.2) (.int .i64 ((rd_T97 l0_6 x51_2).f0))) (fun _ hk => hk.2) _) (fun _ hk => hk.2) (.int .i64 ((rd_T97 l0_6 x51_2).f2))) (fun _ hk => hk.2) (.int .i64 ((rd_T97 l0_6 x51_2).f3))) (fun _ h_ => h_.1))))) (below_size (upB HB.out))); replace HO_5 := Aside0.mk (Kd.R_elder' (by (with_reducible repeat (first | apply Kd.R_alloc | apply Kd.R_drewN | apply Kd.R_drew)); exact (Kd.R_mono (Kd.R_far (Kd.R_far (Kd.R_far (Kd.R_far (Kd.R_types HO_5.out BK812.out (by decide)) (fun _ hk => hk.2) (.int .i64 ((rd_T97 l0_6 x51_2).f0))) (fun _ hk => hk.2) _) (fun _ hk => hk.2) (.int .i64 ((rd_T97 l0_6 x51_2).f2))) (fun _ hk => hk.2) (.int .i64 ((rd_T97 l0_6 x51_2).f3))) (fun _ h_ => h_.1))) (Kd.R_base ho45) hb); replace BK798 := Aside0.mk (blk_below (g := gb798) (o := .cells #[.int .i64 a0_0, .int .i64 a0_1, .int .i64 a0_2, .int .i64 a0_3, .int .i64 a0_4, .int .i64 a0_5, .slice (some ad811) l0_6.length c0_6] 67 (0, 0)) (by (with_reducible repeat (first | refine blk_far ?_ NB798_812.out _ | refine blk_drewN ?_ _ | refine blk_drew ?_ | refine blk_alloc ?_ _)); exact BK798.out) hb); replace BK799 := Aside0.mk (blk_below (g := gb799) (o := .cells #[.int .i64 0, .slice none 0 0] 26 (0, 0)) (by (with_reducible repeat (first | refine blk_far ?_ NB799_812.out _ | refine blk_drewN ?_ _ | refine blk_drew ?_ | refine blk_alloc ?_ _)); exact BK799.out) hb); replace BK812 := Aside0.mk (blk_below (g := gb812) (o := .cells #[.int .i64 ((rd_T97 l0_6 x51_2).f0), .bool false, .int .i64 ((rd_T97 l0_6 x51_2).f2), .int .i64 ((rd_T97 l0_6 x51_2).f3)] 97 (0, 0)) (by (with_reducible repeat (first | refine blk_drewN ?_ _ | refine blk_drew ?_ | refine blk_alloc ?_ _)); refine blk_put (cs := #[.int .i64 ((rd_T97 l0_6 x51_2).f0), .bool false, .int .i64 ((rd_T97 l0_6 x51_2).f2), .int .i64 0]) ?_ 3 _ rfl; (with_reducible repeat (first | refine blk_drewN ?_ _ | refine blk_drew ?_ | refine blk_alloc ?_ _)); refine blk_put (cs := #[.int .i64 ((rd_T97 l0_6 x51_2).f0), .bool false, .int .i64 0, .int .i64 0]) ?_ 2 _ rfl; (with_reducible repeat (first | refine blk_drewN ?_ _ | refine blk_drew ?_ | refine blk_alloc ?_ _)); refine blk_put (cs := #[.int .i64 ((rd_T97 l0_6 x51_2).f0), .bool false, .int .i64 0, .int .i64 0]) ?_ 1 _ rfl; (with_reducible repeat (first | refine blk_drewN ?_ _ | refine blk_drew ?_ | refine blk_alloc ?_ _)); refine blk_put (cs := #[.int .i64 0, .bool false, .int .i64 0, .int .i64 0]) ?_ 0 _ rfl; (with_reducible repeat (first | refine blk_drewN ?_ _ | refine blk_drew ?_ | refine blk_alloc ?_ _)); exact BK812.out) hb); replace HB := Aside0.mk (below_step (upB HB.out) hb); clear hb ho45; obtain ⟨Ao47, co47, eo47⟩ := Kd.R_slice HO821.out; subst eo47) | ((with_reducible refine gate_builtin (b := .append) (xs := #[.tmp 62, .tmp 71]) rfl ?_); at_builtin; refine Kd.R_append_rows (Kd.int .u8) (w0 := w) w.heap.size rfl (.tmp 62) (.tmp 71) 24 5 (.int .u8 0) 1 rfl Try.underlying24 info5 rfl (by decide) (by omega) u5 x5_2 y819 _ _ _ (fun k_ => some k_ ≠ (.slice Ao47 y819.length co47 : Value).ownBlock) (fun _ => False) rfl rfl ?aO ?aR (fun _ _ h => h) (fun _ h => h.elim) ?aF ?aB ?aS ?aL ?_; (case aR => repeat (first | exact (Kd.R_reads' HO821.out).2.2 | (with_reducible refine Kd.C_alloc ?_ _) | (with_reducible refine Kd.C_drewN ?_ _) | (with_reducible refine Kd.C_drew ?_))); (case aB => exact (upB HB.out)); (case aF => exact (fun k_ hk => Kd.fresh' (Kd.R_lt (upR HO821.out)) k_ hk)); (case aO => exact (by (with_reducible repeat (first | apply Kd.R_alloc | apply Kd.R_drewN | apply Kd.R_drew)); exact Kd.R_mono HO_5.out (fun _ hk => hk.2))); (case aS => exact (below_size (upB HB.out))); (case aL => have := LMc39.out; omega); intro v823 w46 ho hb hg hat; rw [← Ny822.out] at ho; have n0_ := Aside0.mk (blk_grown (g := gb798) (o := .cells #[.int .i64 a0_0, .int .i64 a0_1, .int .i64 a0_2, .int .i64 a0_3, .int .i64 a0_4, .int .i64 a0_5, .slice (some ad811) l0_6.length c0_6] 67 (0, 0)) (upK BK798.out) hg (Kd.R_ne HO_5.out BK798.out (by decide))); have n1_ := Aside0.mk (blk_grown (g := gb799) (o := .cells #[.int .i64 0, .slice none 0 0] 26 (0, 0)) (upK BK799.out) hg (Kd.R_ne HO_5.out BK799.out (by decide))); have n2_ := Aside0.mk (blk_grown (g := gb812) (o := .cells #[.int .i64 ((rd_T97 l0_6 x51_2).f0), .bool false, .int .i64 ((rd_T97 l0_6 x51_2).f2), .int .i64 ((rd_T97 l0_6 x51_2).f3)] 97 (0, 0)) (upK BK812.out) hg (Kd.R_ne HO_5.out BK812.out (by decide))); have n3_ := Aside0.mk (Kd.R_after (ok := (fun _ => True)) (upR HO821.out) hg hat); have n4_ := Aside0.mk (hb); have n5_ := Aside0.mk (ho); clear BK798 BK799 BK812 HO821 HB HO_5; have BK798 := n0_; have BK799 := n1_; have BK812 := n2_; have HO821 := n3_; have HB := n4_; have HO824 := n5_; clear n0_ n1_ n2_ n3_ n4_ n5_; clear ho hb hg hat))
                        go_roundg k2
                        case measure => have := HK1.out; have := HK2.out; omega
                        case rel => exact ⟨(y822), (wrap64 (x51_2 + 1)), (by first | rfl | (simp; done) | (simp [*]; done)), H', ⟨by have := HK1.out; have := HK2.out; omega⟩, ⟨by (with_reducible repeat (first | apply Kd.R_alloc | apply Kd.R_drewN | apply Kd.R_drew)); exact Kd.R_mono HO824.out (fun _ hk => trivial)⟩, ⟨by (with_reducible repeat (first | refine blk_drewN ?_ _ | refine blk_drew ?_ | refine blk_alloc ?_ _)); exact BK798.out⟩, ⟨by (with_reducible repeat (first | refine blk_drewN ?_ _ | refine blk_drew ?_ | refine blk_alloc ?_ _)); exact BK799.out⟩, ⟨by repeat (first | (with_reducible first | exact HB.out | apply below_alloc | apply pw_below_drewN | apply below_drew1 | refine below_set ?_ GE798.out | refine below_set ?_ GE799.out | refine below_set ?_ GE812.out) | exact HB.out)⟩⟩
                      · rw [if_neg c39] at H
                        exact absurd H (by simp)
                  · rw [if_neg c27] at H
                    exact absurd H (by simp)
                · rw [if_neg c26] at H
                  exact absurd H (by simp)
              · rw [if_neg c25] at H
                have c25b0 : decide (x51_2 < (l0_6.length : Int)) = false := decide_eq_false c25
                clear c25
                simp only [Option.some.injEq, Prod.mk.injEq] at H
                obtain ⟨rfl, rfl, rfl⟩ := H
                obtain ⟨Ao48, co48, eo48⟩ := Kd.R_slice HO_5.out
                subst eo48
                have hnb49 := NB799_798.out
                have hnc49 := NB798_799.out
                have hcz50_0 : wr.cell? ⟨gb799, 0, none⟩ = some (.int .i64 0) := bc BK799 0
                have hcz50_1 : wr.cell? ⟨gb799, 1, none⟩ = some (.slice none 0 0) := bc BK799 1
                have hfz50_0 := blk_frozen BK799.out 0
                have hfz50_1 := blk_frozen BK799.out 1
                go_wp2
                refine bodyPost_ret (results_ct rfl _ _ gb799 26 #[.int .i64 65441, .slice Ao48 x5_2.length co48] (0, 0) _ rfl (by (with_reducible repeat (first | refine blk_drewN ?_ _ | refine blk_drew ?_ | refine blk_alloc ?_ _)); refine blk_put (cs := #[.int .i64 65441, .slice none 0 0]) ?_ 1 _ rfl; (with_reducible repeat (first | refine blk_drewN ?_ _ | refine blk_drew ?_ | refine blk_alloc ?_ _)); refine blk_put (cs := #[.int .i64 0, .slice none 0 0]) ?_ 0 _ rfl; (with_reducible repeat (first | refine blk_drewN ?_ _ | refine blk_drew ?_ | refine blk_alloc ?_ _)); exact BK799.out) Try.underlying26 rfl (by kernel_rfl)) rfl ?_
                exact ⟨_, by first | rfl | (simp [errW_none, errW_some] <;> rfl) | (simp [*, errW_none, errW_some] <;> rfl), by (with_reducible repeat (first | apply Kd.R_alloc | apply Kd.R_drewN | apply Kd.R_drew)); exact Kd.R_mono (Kd.R_far (Kd.R_far (Kd.R_types HO_5.out BK799.out (by decide)) (fun _ hk => hk.2) _) (fun _ hk => hk.2) _) (fun _ hk => trivial), by repeat (first | (with_reducible first | exact HB.out | apply below_alloc | apply pw_below_drewN | apply below_drew1 | refine below_set ?_ GE798.out | refine below_set ?_ GE799.out) | exact HB.out)⟩
  · rw [if_neg c3] at H
    have c3b0 : (t800 == 0) = false := beq_eq_false_iff_ne.mpr c3
    have c3b1 : (t800 != 0) = true := bne_iff_ne.mpr c3
    simp only [Option.some.injEq, Prod.mk.injEq] at H
    obtain ⟨rfl, rfl, rfl⟩ := H
    go_enter Try.func37, Try.ntmps37
    go_wp2_with (first | ((with_reducible refine gate_dst (N := 1) rfl ?_); refine box_event ?hg (N := 1) ?hd (cs := #[.int .i64 a0_0, .int .i64 a0_1, .int .i64 a0_2, .int .i64 a0_3, .int .i64 a0_4, .int .i64 a0_5, .slice A0_6 l0_6.length c0_6]) (t := 67) ?hr ?_; (case hd => rfl); (case hg => rfl); (case hr => first | (go_simp; done) | (go_simp; rfl)); intro gb798 hg w51 hbox hb; have BK798 := Aside0.mk (hbox); have GW798 := Aside0.mk ((by rw [hg]; exact (below_size (upB HB.out)) : w.heap.size ≤ gb798)); have GE798 := Aside0.mk ((by rw [hg]; exact (below_size (upB HB.out)) : w.heap.size ≤ gb798)); replace HB := Aside0.mk (below_step (upB HB.out) hb); clear hb hbox hg) | ((with_reducible refine gate_dst (N := 2) rfl ?_); refine box_event ?hg (N := 2) ?hd (cs := #[.int .i64 0, .slice none 0 0]) (t := 26) ?hr ?_; (case hd => rfl); (case hg => rfl); (case hr => first | (go_simp; done) | (go_simp; rfl)); intro gb799 hg w52 hbox hb; have BK799 := Aside0.mk (hbox); have GW799 := Aside0.mk ((by rw [hg]; exact (below_size (upB HB.out)) : w.heap.size ≤ gb799)); have GE799 := Aside0.mk ((by rw [hg]; exact (below_size (upB HB.out)) : w.heap.size ≤ gb799)); replace HB := Aside0.mk (below_step (upB HB.out) hb); have NB798_799 := Aside0.mk ((by rw [hg]; exact Nat.ne_of_lt (blk_lt (upK BK798.out)) : gb798 ≠ gb799)); have NB799_798 := Aside0.mk ((by rw [hg]; exact Nat.ne_of_gt (blk_lt (upK BK798.out)) : gb799 ≠ gb798)); replace BK798 := Aside0.mk (blk_below (g := gb798) (o := .cells #[.int .i64 a0_0, .int .i64 a0_1, .int .i64 a0_2, .int .i64 a0_3, .int .i64 a0_4, .int .i64 a0_5, .slice A0_6 l0_6.length c0_6] 67 (0, 0)) (upK BK798.out) hb); clear hb hbox hg; have hnb53 := NB798_799.out; have hnc53 := NB799_798.out; have hcz54_0 : w52.cell? ⟨gb798, 0, none⟩ = some (.int .i64 a0_0) := bc BK798 0; have hcz54_1 : w52.cell? ⟨gb798, 1, none⟩ = some (.int .i64 a0_1) := bc BK798 1; have hcz54_2 : w52.cell? ⟨gb798, 2, none⟩ = some (.int .i64 a0_2) := bc BK798 2; have hcz54_3 : w52.cell? ⟨gb798, 3, none⟩ = some (.int .i64 a0_3) := bc BK798 3; have hcz54_4 : w52.cell? ⟨gb798, 4, none⟩ = some (.int .i64 a0_4) := bc BK798 4; have hcz54_5 : w52.cell? ⟨gb798, 5, none⟩ = some (.int .i64 a0_5) := bc BK798 5; have hcz54_6 : w52.cell? ⟨gb798, 6, none⟩ = some (.slice A0_6 l0_6.length c0_6) := bc BK798 6; have hfz54_0 := blk_frozen BK798.out 0; have hfz54_1 := blk_frozen BK798.out 1; have hfz54_2 := blk_frozen BK798.out 2; have hfz54_3 := blk_frozen BK798.out 3; have hfz54_4 := blk_frozen BK798.out 4; have hfz54_5 := blk_frozen BK798.out 5; have hfz54_6 := blk_frozen BK798.out 6) | ((with_reducible refine gate_callee (f := 60) rfl ?_); refine goesL_ (some 12) rfl rfl Try.func60 (by kernel_rfl) rfl #[.agg #[.int .i64 a0_0, .int .i64 a0_1, .int .i64 a0_2, .int .i64 a0_3, .int .i64 a0_4, .int .i64 a0_5, .slice A0_6 l0_6.length c0_6]] rfl upL ?_; (with_reducible refine (params_Header.calls k a0_0 a0_1 a0_2 a0_3 a0_4 a0_5 _ _ l0_6 t800 _ ?side1 ?side2 A2.out).mono ?_); (case side1 => repeat (first | exact (Kd.C_below HR0_6.out HB.out) | (with_reducible refine Kd.C_alloc ?_ _) | (with_reducible refine Kd.C_drewN ?_ _) | (with_reducible refine Kd.C_drew ?_))); (case side2 => exact HC0_6.out); rintro e w55 ⟨rfl, hb⟩; refine ⟨_, rfl, ?_⟩; replace BK798 := Aside0.mk (blk_below (g := gb798) (o := .cells #[.int .i64 a0_0, .int .i64 a0_1, .int .i64 a0_2, .int .i64 a0_3, .int .i64 a0_4, .int .i64 a0_5, .slice A0_6 l0_6.length c0_6] 67 (0, 0)) (upK BK798.out) hb); replace BK799 := Aside0.mk (blk_below (g := gb799) (o := .cells #[.int .i64 0, .slice none 0 0] 26 (0, 0)) (upK BK799.out) hb); replace HB := Aside0.mk (below_step (upB HB.out) hb); (try clear hb; try clear hb2; try clear hk; try clear hi); have hcz56_0 : w55.cell? ⟨gb799, 0, none⟩ = some (.int .i64 0) := bc BK799 0; have hcz56_1 : w55.cell? ⟨gb799, 1, none⟩ = some (.slice none 0 0) := bc BK799 1; have hfz56_0 := blk_frozen BK799.out 0; have hfz56_1 := blk_frozen BK799.out 1))
    refine bodyPost_ret (results_ct rfl _ _ gb799 26 #[.int .i64 0, .slice none 0 0] (0, 0) _ rfl (by (with_reducible repeat (first | refine blk_drewN ?_ _ | refine blk_drew ?_ | refine blk_alloc ?_ _)); refine blk_put (cs := #[.int .i64 0, .slice none 0 0]) ?_ 1 _ rfl; (with_reducible repeat (first | refine blk_drewN ?_ _ | refine blk_drew ?_ | refine blk_alloc ?_ _)); refine blk_put (cs := #[.int .i64 0, .slice none 0 0]) ?_ 0 _ rfl; (with_reducible repeat (first | refine blk_drewN ?_ _ | refine blk_drew ?_ | refine blk_alloc ?_ _)); exact BK799.out) Try.underlying26 rfl (by kernel_rfl)) rfl ?_
    exact ⟨_, by first | rfl | (simp [errW_none, errW_some] <;> rfl) | (simp [*, errW_none, errW_some] <;> rfl), by first | exact Kd.R_nil _ _ _ _ _ | exact Kd.N_nil _ _ _ _ _ | exact Kd.V_nil _ _ _ _ _ | exact Kd.Q_nil _ _ _ _ _ | exact Kd.S_nil _ _ _ _ _, by repeat (first | (with_reducible first | exact HB.out | apply below_alloc | apply pw_below_drewN | apply below_drew1 | refine below_set ?_ GE798.out | refine below_set ?_ GE799.out) | exact HB.out)⟩

end Go.Proofs.Ytihfopblmjgfaaa.Q
