/- Texts of this session (words and printed walks, merged by wip/tools/merge.py) for the statement of the claim. -/
import Derived.Test.YtcnpekpgghppnaaMLo1
import Derived.Test.YtcnpekpgghppnaaMLo11
import Derived.Test.YtcnpekpgghppnaaMLo9
import Derived.Test.YtcnpekpgghppnaaMLo10
import Derived.Test.YtcnpekpgghppnaaMLo8
import Derived.Test.YtcnpekpgghppnaaMLo7
namespace Go.Proofs.Ytcnpekpgghppnaa.Q
open Go.RowKit Go.Proofs.YtcnpekpgghppnaaW.PrintWords Go.Proofs.YtcnpekpgghppnaaW.PrintLast Go.Proofs.YtcnpekpgghppnaaW.PrintMore
attribute [local go_sem] max2_int min2_int max_two min_two max_three min_three max_four min_four
set_option linter.unusedVariables false
set_option linter.unusedSimpArgs false
def waveletref02_SameAll.l0 : Nat → List (S26) → List (S26) → Int → Option (Bool)
 | 0, _, _, _ => none
 | k + 1, x0, x1, x5 => if x5 < (x0.length : Int) then (if 0 ≤ x5 then (if x5 < (x1.length : Int) then ((waveletref02_Same.f k ((rd_T26 x0 x5).f0.f0) ((rd_T26 x0 x5).f0.f1) ((rd_T26 x0 x5).f0.f2) ((rd_T26 x0 x5).f0.f3) ((rd_T26 x0 x5).f1) ((rd_T26 x1 x5).f0.f0) ((rd_T26 x1 x5).f0.f1) ((rd_T26 x1 x5).f0.f2) ((rd_T26 x1 x5).f0.f3) ((rd_T26 x1 x5).f1)).bind fun t313 => (if t313 = true then (waveletref02_SameAll.l0 k x0 x1 (wrap64 (x5 + 1))) else (some false))) else (none)) else (none)) else (some true)
def waveletref02_SameAll.f (k : Nat) (l0 : List (S26)) (l1 : List (S26)) : Option (Bool) := if (l0.length : Int) = (l1.length : Int) then (waveletref02_SameAll.l0 k l0 l1 0) else (some false)
def waveletref02_SameAll.T6 : Bool × List (List Nat × List Nat) := (true, [([], []), ([], []), ([0, 1], [0, 1]), ([2], [2]), ([], []), ([], []), ([4, 5], [4, 5]), ([6], [6]), ([3, 7], [3, 7]), ([8], [8])])
def waveletref02_SameAll.B6 : List Nat := [0, 0, 3, 7, 0, 0, 48, 112, 255, 511]
theorem waveletref02_SameAll.tab6 : rtab .any (opsOf Try.f44 6) = waveletref02_SameAll.T6 := by kernel_rfl
theorem waveletref02_SameAll.bits6 : waitsOk waveletref02_SameAll.T6.2 waveletref02_SameAll.B6 = true := by kernel_rfl
set_option maxHeartbeats 8000000 in
set_option maxRecDepth 100000 in
theorem waveletref02_SameAll.calls (k : Nat) (A0 : Option Addr) (c0 : Nat) (l0 : List (S26)) (A1 : Option Addr) (c1 : Nat) (l1 : List (S26)) (r : Bool) (w : World) (hr0 : Kd.C k26 w A0 l0.length l0) (hc0 : l0.length ≤ c0) (hr1 : Kd.C k26 w A1 l1.length l1) (hc1 : l1.length ≤ c1) (h : waveletref02_SameAll.f k l0 l1 = some r) :
  Calls Try.prog 44 #[.slice A0 l0.length c0, .slice A1 l1.length c1] w fun e w' => e = .returned (.bool r) ∧ Below w.heap.size w w' := by
 have hu26 := Try.underlying26
 have HR0 := Aside0.mk hr0
 have HC0 := Aside0.mk hc0
 clear hr0 hc0
 have HR1 := Aside0.mk hr1
 have HC1 := Aside0.mk hc1
 clear hr1 hc1
 have HB := Aside0.mk (Below.refl w.heap.size w)
 have H : (if (l0.length : Int) = (l1.length : Int) then (waveletref02_SameAll.l0 k l0 l1 0) else (some false)) = some r := h
 clear h
 by_cases c3 : (l0.length : Int) = (l1.length : Int)
 ·rw [if_pos c3] at H
  have c3b0 : ((l0.length : Int) == (l1.length : Int)) = true := beq_iff_eq.mpr c3
  have c3b1 : ((l0.length : Int) != (l1.length : Int)) = false := bne_eq_false_iff_eq.mpr c3
  have c3b2 : (l0.length == l1.length) = true := by first | simpa using c3 | (simp at c3 ⊢; omega)
  clear c3
  have H' := Aside0.mk H
  clear H
  go_enter Try.func44, Try.ntmps44
  go_wp2
  go_loopg [5] k (fun kq v5 w' => ∃ (x5_1 : Int), v5 = .int .i64 x5_1 ∧ Aside0 (waveletref02_SameAll.l0 kq l0 l1 x5_1 = some r) ∧ Aside0 (kq ≤ k) ∧ Aside0 (Below w.heap.size w w'))
  case atStart => exact ⟨(0), (by first | rfl | (simp; done) | (simp [*]; done)), H', ⟨Nat.le_refl _⟩, ⟨by repeat (first | (with_reducible first | exact HB.out | apply below_alloc | apply pw_below_drewN | apply below_drew1) | exact HB.out)⟩⟩
  case round =>
   clear H'
   try clear c1
   try clear p2
   try clear c3
   try clear c3b0
   try clear c3b1
   try clear c3b2
   obtain ⟨x5_1, rfl, HA, HK1, HB⟩ := hrel
   cases gk with
   | zero => exact absurd HA.out (by simp [waveletref02_SameAll.l0])
   | succ k1 =>
    have H := HA.out
    clear HA
    simp only [waveletref02_SameAll.l0] at H
    by_cases c4 : x5_1 < (l0.length : Int)
    ·rw [if_pos c4] at H
     have c4b0 : decide (x5_1 < (l0.length : Int)) = true := decide_eq_true c4
     clear c4
     by_cases c5 : 0 ≤ x5_1
     ·rw [if_pos c5] at H
      have c5b0 : decide (0 ≤ x5_1) = true := decide_eq_true c5
      clear c5
      by_cases c6 : x5_1 < (l1.length : Int)
      ·rw [if_pos c6] at H
       have c6b0 : decide (x5_1 < (l1.length : Int)) = true := decide_eq_true c6
       clear c6
       replace H := Option.bind_eq_some_iff.mp H
       obtain ⟨t313, A70, H⟩ := H
       replace H : (if t313 = true then (waveletref02_SameAll.l0 k1 l0 l1 (wrap64 (x5_1 + 1))) else (some false)) = some r := H
       have A7 := Aside0.mk A70
       clear A70
       by_cases c8 : t313 = true
       ·subst c8
        have H1 : (waveletref02_SameAll.l0 k1 l0 l1 (wrap64 (x5_1 + 1))) = some r := by rw [if_pos rfl] at H; exact H
        clear H
        have H := H1
        clear H1
        have H' := Aside0.mk H
        clear H
        try go_wp2
        have n0_ := Aside0.mk (below_drew1 HB.out)
        clear HB
        have HB := n0_
        clear n0_
        have p311 : 0 ≤ (x5_1 : Int) := of_decide_eq_true (by first | (with_reducible assumption) | assumption)
        have q311 : x5_1 < (l0.length : Int) := of_decide_eq_true (by first | (with_reducible assumption) | assumption)
        obtain ⟨ad311, A311_4, c311_4, e311, hx311_0, hx311_1, hx311_2, hx311_3, hx311_4, hl311_4, hi311_4⟩ := at_T26 HR0.out x5_1 p311 q311
        have hw311_4 := hx311_4
        have hw311_3 := hx311_3
        have hw311_2 := hx311_2
        have hw311_1 := hx311_1
        have hw311_0 := hx311_0
        cases e311
        replace hx311_0 := (HB.out.cell (World.block_lt_of_cell? w _ hx311_0)).trans hx311_0
        replace hx311_1 := (HB.out.cell (World.block_lt_of_cell? w _ hx311_1)).trans hx311_1
        replace hx311_2 := (HB.out.cell (World.block_lt_of_cell? w _ hx311_2)).trans hx311_2
        replace hx311_3 := (HB.out.cell (World.block_lt_of_cell? w _ hx311_3)).trans hx311_3
        replace hx311_4 := (HB.out.cell (World.block_lt_of_cell? w _ hx311_4)).trans hx311_4
        have HR311_4 := Aside0.mk hi311_4
        have HC311_4 := Aside0.mk hl311_4
        clear hi311_4 hl311_4
        replace p311 := eq_true p311
        replace q311 := eq_true q311
        have p312 : 0 ≤ (x5_1 : Int) := of_decide_eq_true (by first | (with_reducible assumption) | assumption)
        have q312 : x5_1 < (l1.length : Int) := of_decide_eq_true (by first | (with_reducible assumption) | assumption)
        obtain ⟨ad312, A312_4, c312_4, e312, hx312_0, hx312_1, hx312_2, hx312_3, hx312_4, hl312_4, hi312_4⟩ := at_T26 HR1.out x5_1 p312 q312
        have hw312_4 := hx312_4
        have hw312_3 := hx312_3
        have hw312_2 := hx312_2
        have hw312_1 := hx312_1
        have hw312_0 := hx312_0
        cases e312
        replace hx312_0 := (HB.out.cell (World.block_lt_of_cell? w _ hx312_0)).trans hx312_0
        replace hx312_1 := (HB.out.cell (World.block_lt_of_cell? w _ hx312_1)).trans hx312_1
        replace hx312_2 := (HB.out.cell (World.block_lt_of_cell? w _ hx312_2)).trans hx312_2
        replace hx312_3 := (HB.out.cell (World.block_lt_of_cell? w _ hx312_3)).trans hx312_3
        replace hx312_4 := (HB.out.cell (World.block_lt_of_cell? w _ hx312_4)).trans hx312_4
        have HR312_4 := Aside0.mk hi312_4
        have HC312_4 := Aside0.mk hl312_4
        clear hi312_4 hl312_4
        replace p312 := eq_true p312
        replace q312 := eq_true q312
        refine start_ (n := 10) (S := fun w' => w'.cell? (ad311.add ((x5_1).toNat * 5)) = some (.int .i64 ((rd_T26 l0 x5_1).f0.f0)) ∧ w'.cell? ⟨(ad311.add ((x5_1).toNat * 5)).block, (ad311.add ((x5_1).toNat * 5)).off + 1, none⟩ = some (.int .i64 ((rd_T26 l0 x5_1).f0.f1)) ∧ w'.cell? ⟨(ad311.add ((x5_1).toNat * 5)).block, (ad311.add ((x5_1).toNat * 5)).off + 2, none⟩ = some (.int .i64 ((rd_T26 l0 x5_1).f0.f2)) ∧ w'.cell? ⟨(ad311.add ((x5_1).toNat * 5)).block, (ad311.add ((x5_1).toNat * 5)).off + 3, none⟩ = some (.int .i64 ((rd_T26 l0 x5_1).f0.f3)) ∧ w'.cell? ⟨(ad311.add ((x5_1).toNat * 5)).block, (ad311.add ((x5_1).toNat * 5)).off + 4, none⟩ = some (.slice A311_4 ((rd_T26 l0 x5_1).f1).length c311_4) ∧ w'.cell? (ad312.add ((x5_1).toNat * 5)) = some (.int .i64 ((rd_T26 l1 x5_1).f0.f0)) ∧ w'.cell? ⟨(ad312.add ((x5_1).toNat * 5)).block, (ad312.add ((x5_1).toNat * 5)).off + 1, none⟩ = some (.int .i64 ((rd_T26 l1 x5_1).f0.f1)) ∧ w'.cell? ⟨(ad312.add ((x5_1).toNat * 5)).block, (ad312.add ((x5_1).toNat * 5)).off + 2, none⟩ = some (.int .i64 ((rd_T26 l1 x5_1).f0.f2)) ∧ w'.cell? ⟨(ad312.add ((x5_1).toNat * 5)).block, (ad312.add ((x5_1).toNat * 5)).off + 3, none⟩ = some (.int .i64 ((rd_T26 l1 x5_1).f0.f3)) ∧ w'.cell? ⟨(ad312.add ((x5_1).toNat * 5)).block, (ad312.add ((x5_1).toNat * 5)).off + 4, none⟩ = some (.slice A312_4 ((rd_T26 l1 x5_1).f1).length c312_4)) (ds := []) #[false, false, false, false, false, false, false, false, false, false] (by kernel_rfl) rfl rfl ⟨((HB.out.cell (World.block_lt_of_cell? w _ hw311_0)).trans hw311_0), ((HB.out.cell (World.block_lt_of_cell? w _ hw311_1)).trans hw311_1), ((HB.out.cell (World.block_lt_of_cell? w _ hw311_2)).trans hw311_2), ((HB.out.cell (World.block_lt_of_cell? w _ hw311_3)).trans hw311_3), ((HB.out.cell (World.block_lt_of_cell? w _ hw311_4)).trans hw311_4), ((HB.out.cell (World.block_lt_of_cell? w _ hw312_0)).trans hw312_0), ((HB.out.cell (World.block_lt_of_cell? w _ hw312_1)).trans hw312_1), ((HB.out.cell (World.block_lt_of_cell? w _ hw312_2)).trans hw312_2), ((HB.out.cell (World.block_lt_of_cell? w _ hw312_3)).trans hw312_3), ((HB.out.cell (World.block_lt_of_cell? w _ hw312_4)).trans hw312_4)⟩ (fun hHeld => ?_); refine with_tabW waveletref02_SameAll.tab6 waveletref02_SameAll.bits6 (fun HT_ HW_ => ?_)
        generalize wr.drew = w9 at HB HR311_4 HR312_4 hx311_0 hx311_1 hx311_2 hx311_3 hx311_4 hx312_0 hx312_1 hx312_2 hx312_3 hx312_4 hHeld ⊢
        refine pTT (i := 0) (N := some 17) HT_.out ?_
        refine pTT (i := 1) (N := some 18) HT_.out ?_
        refine pTT (i := 2) (N := some 19) HT_.out ?_
        refine pTT (i := 4) (N := some 21) HT_.out ?_
        refine pTT (i := 5) (N := some 22) HT_.out ?_
        refine pTT (i := 6) (N := some 23) HT_.out ?_
        refine take_ (i := 3) (N := some 20) (v := ?_) (a' := ?_) #[true, true, true, true, true, true, true, false, false, false] rfl rfl (take_ofW HT_.out HW_.out (by kernel_rfl)) (fun _ _ _ h => h) (Or.inl ⟨by rfl, ?_⟩) hHeld ?_ ?_
        rotate_left
        ·rintro w' ⟨s0, s1, s2, s3, s4, s5, s6, s7, s8, s9⟩
         go_simp
         with_reducible rfl
        rotate_left
        ·simp only [Act.put, List.setIfInBounds_toArray, List.set_cons_zero, List.set_cons_succ, i64_w, i32_w]
         rfl
        refine take_ (i := 7) (N := some 24) (v := ?_) (a' := ?_) #[true, true, true, true, true, true, true, true, false, false] rfl rfl (take_ofW HT_.out HW_.out (by kernel_rfl)) (fun _ _ _ h => h) (Or.inl ⟨by rfl, ?_⟩) hHeld ?_ ?_
        rotate_left
        ·rintro w' ⟨s0, s1, s2, s3, s4, s5, s6, s7, s8, s9⟩
         go_simp
         with_reducible rfl
        rotate_left
        ·simp only [Act.put, List.setIfInBounds_toArray, List.set_cons_zero, List.set_cons_succ, i64_w, i32_w]
         rfl
        refine one_ (i := 8) (N := some 25) #[true, true, true, true, true, true, true, true, true, false] rfl rfl (one_of HT_.out (by kernel_rfl)) (by decide) (fun K hK => ?_)
        refine goes_ Try.func69 (by kernel_rfl) rfl #[.agg #[.int .i64 ((rd_T26 l0 x5_1).f0.f0), .int .i64 ((rd_T26 l0 x5_1).f0.f1), .int .i64 ((rd_T26 l0 x5_1).f0.f2), .int .i64 ((rd_T26 l0 x5_1).f0.f3), .slice A311_4 ((rd_T26 l0 x5_1).f1).length c311_4], .agg #[.int .i64 ((rd_T26 l1 x5_1).f0.f0), .int .i64 ((rd_T26 l1 x5_1).f0.f1), .int .i64 ((rd_T26 l1 x5_1).f0.f2), .int .i64 ((rd_T26 l1 x5_1).f0.f3), .slice A312_4 ((rd_T26 l1 x5_1).f1).length c312_4]] (by rfl) rfl rfl (by (try simp only [List.map_toArray, List.map_cons, List.map_nil]); first | done | rfl | (simp only [List.length_drop, List.length_take]; rfl)) ?_
        with_reducible refine (waveletref02_Same.calls k1 ((rd_T26 l0 x5_1).f0.f0) ((rd_T26 l0 x5_1).f0.f1) ((rd_T26 l0 x5_1).f0.f2) ((rd_T26 l0 x5_1).f0.f3) _ _ ((rd_T26 l0 x5_1).f1) ((rd_T26 l1 x5_1).f0.f0) ((rd_T26 l1 x5_1).f0.f1) ((rd_T26 l1 x5_1).f0.f2) ((rd_T26 l1 x5_1).f0.f3) _ _ ((rd_T26 l1 x5_1).f1) true _ ?side1 ?side2 ?side3 ?side4 A7.out).mono ?_
        (case side1 => repeat (first | exact (Kd.C_below HR311_4.out HB.out) | (with_reducible refine Kd.C_alloc ?_ _) | (with_reducible refine Kd.C_drewN ?_ _) | (with_reducible refine Kd.C_drew ?_)))
        (case side2 => exact HC311_4.out)
        (case side3 => repeat (first | exact (Kd.C_below HR312_4.out HB.out) | (with_reducible refine Kd.C_alloc ?_ _) | (with_reducible refine Kd.C_drewN ?_ _) | (with_reducible refine Kd.C_drew ?_)))
        (case side4 => exact HC312_4.out)
        rintro e w10 ⟨rfl, hb⟩
        refine ⟨_, rfl, ?_⟩
        have n0_ := Aside0.mk (below_step (by repeat (first | (with_reducible first | exact HB.out | apply below_alloc | apply pw_below_drewN | apply below_drew1) | exact HB.out)) hb)
        clear HB
        have HB := n0_
        clear n0_
        (try clear hb)
        (try clear hb2)
        (try clear hk)
        (try clear hi)
        refine hK.out _ _ ⟨((HB.out.cell (World.block_lt_of_cell? w _ hw311_0)).trans hw311_0), ((HB.out.cell (World.block_lt_of_cell? w _ hw311_1)).trans hw311_1), ((HB.out.cell (World.block_lt_of_cell? w _ hw311_2)).trans hw311_2), ((HB.out.cell (World.block_lt_of_cell? w _ hw311_3)).trans hw311_3), ((HB.out.cell (World.block_lt_of_cell? w _ hw311_4)).trans hw311_4), ((HB.out.cell (World.block_lt_of_cell? w _ hw312_0)).trans hw312_0), ((HB.out.cell (World.block_lt_of_cell? w _ hw312_1)).trans hw312_1), ((HB.out.cell (World.block_lt_of_cell? w _ hw312_2)).trans hw312_2), ((HB.out.cell (World.block_lt_of_cell? w _ hw312_3)).trans hw312_3), ((HB.out.cell (World.block_lt_of_cell? w _ hw312_4)).trans hw312_4)⟩ (fun hHeld => ?_)
        clear hK K
        refine nT ?_
        refine pTT (i := 9) (N := some 26) HT_.out ?_
        refine done_ (done_of HT_.out (by kernel_rfl)) ?_
        try go_wp2
        go_roundg k1
        case measure => have := HK1.out; omega
        case rel => exact ⟨(wrap64 (x5_1 + 1)), (by first | rfl | (simp; done) | (simp [*]; done)), H', ⟨by have := HK1.out; omega⟩, ⟨by repeat (first | (with_reducible first | exact HB.out | apply below_alloc | apply pw_below_drewN | apply below_drew1) | exact HB.out)⟩⟩
       ·replace c8 := Bool.eq_false_iff.mpr c8
        subst c8
        have H1 : (some false) = some r := by rw [if_neg (show ¬ (false = true) by decide)] at H; exact H
        clear H
        have H := H1
        clear H1
        obtain rfl := Option.some.inj H
        try go_wp2
        have n0_ := Aside0.mk (below_drew1 HB.out)
        clear HB
        have HB := n0_
        clear n0_
        have p311 : 0 ≤ (x5_1 : Int) := of_decide_eq_true (by first | (with_reducible assumption) | assumption)
        have q311 : x5_1 < (l0.length : Int) := of_decide_eq_true (by first | (with_reducible assumption) | assumption)
        obtain ⟨ad311, A311_4, c311_4, e311, hx311_0, hx311_1, hx311_2, hx311_3, hx311_4, hl311_4, hi311_4⟩ := at_T26 HR0.out x5_1 p311 q311
        have hw311_4 := hx311_4
        have hw311_3 := hx311_3
        have hw311_2 := hx311_2
        have hw311_1 := hx311_1
        have hw311_0 := hx311_0
        cases e311
        replace hx311_0 := (HB.out.cell (World.block_lt_of_cell? w _ hx311_0)).trans hx311_0
        replace hx311_1 := (HB.out.cell (World.block_lt_of_cell? w _ hx311_1)).trans hx311_1
        replace hx311_2 := (HB.out.cell (World.block_lt_of_cell? w _ hx311_2)).trans hx311_2
        replace hx311_3 := (HB.out.cell (World.block_lt_of_cell? w _ hx311_3)).trans hx311_3
        replace hx311_4 := (HB.out.cell (World.block_lt_of_cell? w _ hx311_4)).trans hx311_4
        have HR311_4 := Aside0.mk hi311_4
        have HC311_4 := Aside0.mk hl311_4
        clear hi311_4 hl311_4
        replace p311 := eq_true p311
        replace q311 := eq_true q311
        have p312 : 0 ≤ (x5_1 : Int) := of_decide_eq_true (by first | (with_reducible assumption) | assumption)
        have q312 : x5_1 < (l1.length : Int) := of_decide_eq_true (by first | (with_reducible assumption) | assumption)
        obtain ⟨ad312, A312_4, c312_4, e312, hx312_0, hx312_1, hx312_2, hx312_3, hx312_4, hl312_4, hi312_4⟩ := at_T26 HR1.out x5_1 p312 q312
        have hw312_4 := hx312_4
        have hw312_3 := hx312_3
        have hw312_2 := hx312_2
        have hw312_1 := hx312_1
        have hw312_0 := hx312_0
        cases e312
        replace hx312_0 := (HB.out.cell (World.block_lt_of_cell? w _ hx312_0)).trans hx312_0
        replace hx312_1 := (HB.out.cell (World.block_lt_of_cell? w _ hx312_1)).trans hx312_1
        replace hx312_2 := (HB.out.cell (World.block_lt_of_cell? w _ hx312_2)).trans hx312_2
        replace hx312_3 := (HB.out.cell (World.block_lt_of_cell? w _ hx312_3)).trans hx312_3
        replace hx312_4 := (HB.out.cell (World.block_lt_of_cell? w _ hx312_4)).trans hx312_4
        have HR312_4 := Aside0.mk hi312_4
        have HC312_4 := Aside0.mk hl312_4
        clear hi312_4 hl312_4
        replace p312 := eq_true p312
        replace q312 := eq_true q312
        refine start_ (n := 10) (S := fun w' => w'.cell? (ad311.add ((x5_1).toNat * 5)) = some (.int .i64 ((rd_T26 l0 x5_1).f0.f0)) ∧ w'.cell? ⟨(ad311.add ((x5_1).toNat * 5)).block, (ad311.add ((x5_1).toNat * 5)).off + 1, none⟩ = some (.int .i64 ((rd_T26 l0 x5_1).f0.f1)) ∧ w'.cell? ⟨(ad311.add ((x5_1).toNat * 5)).block, (ad311.add ((x5_1).toNat * 5)).off + 2, none⟩ = some (.int .i64 ((rd_T26 l0 x5_1).f0.f2)) ∧ w'.cell? ⟨(ad311.add ((x5_1).toNat * 5)).block, (ad311.add ((x5_1).toNat * 5)).off + 3, none⟩ = some (.int .i64 ((rd_T26 l0 x5_1).f0.f3)) ∧ w'.cell? ⟨(ad311.add ((x5_1).toNat * 5)).block, (ad311.add ((x5_1).toNat * 5)).off + 4, none⟩ = some (.slice A311_4 ((rd_T26 l0 x5_1).f1).length c311_4) ∧ w'.cell? (ad312.add ((x5_1).toNat * 5)) = some (.int .i64 ((rd_T26 l1 x5_1).f0.f0)) ∧ w'.cell? ⟨(ad312.add ((x5_1).toNat * 5)).block, (ad312.add ((x5_1).toNat * 5)).off + 1, none⟩ = some (.int .i64 ((rd_T26 l1 x5_1).f0.f1)) ∧ w'.cell? ⟨(ad312.add ((x5_1).toNat * 5)).block, (ad312.add ((x5_1).toNat * 5)).off + 2, none⟩ = some (.int .i64 ((rd_T26 l1 x5_1).f0.f2)) ∧ w'.cell? ⟨(ad312.add ((x5_1).toNat * 5)).block, (ad312.add ((x5_1).toNat * 5)).off + 3, none⟩ = some (.int .i64 ((rd_T26 l1 x5_1).f0.f3)) ∧ w'.cell? ⟨(ad312.add ((x5_1).toNat * 5)).block, (ad312.add ((x5_1).toNat * 5)).off + 4, none⟩ = some (.slice A312_4 ((rd_T26 l1 x5_1).f1).length c312_4)) (ds := []) #[false, false, false, false, false, false, false, false, false, false] (by kernel_rfl) rfl rfl ⟨((HB.out.cell (World.block_lt_of_cell? w _ hw311_0)).trans hw311_0), ((HB.out.cell (World.block_lt_of_cell? w _ hw311_1)).trans hw311_1), ((HB.out.cell (World.block_lt_of_cell? w _ hw311_2)).trans hw311_2), ((HB.out.cell (World.block_lt_of_cell? w _ hw311_3)).trans hw311_3), ((HB.out.cell (World.block_lt_of_cell? w _ hw311_4)).trans hw311_4), ((HB.out.cell (World.block_lt_of_cell? w _ hw312_0)).trans hw312_0), ((HB.out.cell (World.block_lt_of_cell? w _ hw312_1)).trans hw312_1), ((HB.out.cell (World.block_lt_of_cell? w _ hw312_2)).trans hw312_2), ((HB.out.cell (World.block_lt_of_cell? w _ hw312_3)).trans hw312_3), ((HB.out.cell (World.block_lt_of_cell? w _ hw312_4)).trans hw312_4)⟩ (fun hHeld => ?_); refine with_tabW waveletref02_SameAll.tab6 waveletref02_SameAll.bits6 (fun HT_ HW_ => ?_)
        generalize wr.drew = w11 at HB HR311_4 HR312_4 hx311_0 hx311_1 hx311_2 hx311_3 hx311_4 hx312_0 hx312_1 hx312_2 hx312_3 hx312_4 hHeld ⊢
        refine pTT (i := 0) (N := some 17) HT_.out ?_
        refine pTT (i := 1) (N := some 18) HT_.out ?_
        refine pTT (i := 2) (N := some 19) HT_.out ?_
        refine pTT (i := 4) (N := some 21) HT_.out ?_
        refine pTT (i := 5) (N := some 22) HT_.out ?_
        refine pTT (i := 6) (N := some 23) HT_.out ?_
        refine take_ (i := 3) (N := some 20) (v := ?_) (a' := ?_) #[true, true, true, true, true, true, true, false, false, false] rfl rfl (take_ofW HT_.out HW_.out (by kernel_rfl)) (fun _ _ _ h => h) (Or.inl ⟨by rfl, ?_⟩) hHeld ?_ ?_
        rotate_left
        ·rintro w' ⟨s0, s1, s2, s3, s4, s5, s6, s7, s8, s9⟩
         go_simp
         with_reducible rfl
        rotate_left
        ·simp only [Act.put, List.setIfInBounds_toArray, List.set_cons_zero, List.set_cons_succ, i64_w, i32_w]
         rfl
        refine take_ (i := 7) (N := some 24) (v := ?_) (a' := ?_) #[true, true, true, true, true, true, true, true, false, false] rfl rfl (take_ofW HT_.out HW_.out (by kernel_rfl)) (fun _ _ _ h => h) (Or.inl ⟨by rfl, ?_⟩) hHeld ?_ ?_
        rotate_left
        ·rintro w' ⟨s0, s1, s2, s3, s4, s5, s6, s7, s8, s9⟩
         go_simp
         with_reducible rfl
        rotate_left
        ·simp only [Act.put, List.setIfInBounds_toArray, List.set_cons_zero, List.set_cons_succ, i64_w, i32_w]
         rfl
        refine one_ (i := 8) (N := some 25) #[true, true, true, true, true, true, true, true, true, false] rfl rfl (one_of HT_.out (by kernel_rfl)) (by decide) (fun K hK => ?_)
        refine goes_ Try.func69 (by kernel_rfl) rfl #[.agg #[.int .i64 ((rd_T26 l0 x5_1).f0.f0), .int .i64 ((rd_T26 l0 x5_1).f0.f1), .int .i64 ((rd_T26 l0 x5_1).f0.f2), .int .i64 ((rd_T26 l0 x5_1).f0.f3), .slice A311_4 ((rd_T26 l0 x5_1).f1).length c311_4], .agg #[.int .i64 ((rd_T26 l1 x5_1).f0.f0), .int .i64 ((rd_T26 l1 x5_1).f0.f1), .int .i64 ((rd_T26 l1 x5_1).f0.f2), .int .i64 ((rd_T26 l1 x5_1).f0.f3), .slice A312_4 ((rd_T26 l1 x5_1).f1).length c312_4]] (by rfl) rfl rfl (by (try simp only [List.map_toArray, List.map_cons, List.map_nil]); first | done | rfl | (simp only [List.length_drop, List.length_take]; rfl)) ?_
        with_reducible refine (waveletref02_Same.calls k1 ((rd_T26 l0 x5_1).f0.f0) ((rd_T26 l0 x5_1).f0.f1) ((rd_T26 l0 x5_1).f0.f2) ((rd_T26 l0 x5_1).f0.f3) _ _ ((rd_T26 l0 x5_1).f1) ((rd_T26 l1 x5_1).f0.f0) ((rd_T26 l1 x5_1).f0.f1) ((rd_T26 l1 x5_1).f0.f2) ((rd_T26 l1 x5_1).f0.f3) _ _ ((rd_T26 l1 x5_1).f1) false _ ?side1 ?side2 ?side3 ?side4 A7.out).mono ?_
        (case side1 => repeat (first | exact (Kd.C_below HR311_4.out HB.out) | (with_reducible refine Kd.C_alloc ?_ _) | (with_reducible refine Kd.C_drewN ?_ _) | (with_reducible refine Kd.C_drew ?_)))
        (case side2 => exact HC311_4.out)
        (case side3 => repeat (first | exact (Kd.C_below HR312_4.out HB.out) | (with_reducible refine Kd.C_alloc ?_ _) | (with_reducible refine Kd.C_drewN ?_ _) | (with_reducible refine Kd.C_drew ?_)))
        (case side4 => exact HC312_4.out)
        rintro e w12 ⟨rfl, hb⟩
        refine ⟨_, rfl, ?_⟩
        have n0_ := Aside0.mk (below_step (by repeat (first | (with_reducible first | exact HB.out | apply below_alloc | apply pw_below_drewN | apply below_drew1) | exact HB.out)) hb)
        clear HB
        have HB := n0_
        clear n0_
        (try clear hb)
        (try clear hb2)
        (try clear hk)
        (try clear hi)
        refine hK.out _ _ ⟨((HB.out.cell (World.block_lt_of_cell? w _ hw311_0)).trans hw311_0), ((HB.out.cell (World.block_lt_of_cell? w _ hw311_1)).trans hw311_1), ((HB.out.cell (World.block_lt_of_cell? w _ hw311_2)).trans hw311_2), ((HB.out.cell (World.block_lt_of_cell? w _ hw311_3)).trans hw311_3), ((HB.out.cell (World.block_lt_of_cell? w _ hw311_4)).trans hw311_4), ((HB.out.cell (World.block_lt_of_cell? w _ hw312_0)).trans hw312_0), ((HB.out.cell (World.block_lt_of_cell? w _ hw312_1)).trans hw312_1), ((HB.out.cell (World.block_lt_of_cell? w _ hw312_2)).trans hw312_2), ((HB.out.cell (World.block_lt_of_cell? w _ hw312_3)).trans hw312_3), ((HB.out.cell (World.block_lt_of_cell? w _ hw312_4)).trans hw312_4)⟩ (fun hHeld => ?_)
        clear hK K
        refine nT ?_
        refine pTT (i := 9) (N := some 26) HT_.out ?_
        refine done_ (done_of HT_.out (by kernel_rfl)) ?_
        try go_wp2
        go_ret
        exact ⟨by first | rfl | (simp [errW_none, errW_some] <;> rfl) | (simp [*, errW_none, errW_some] <;> rfl), by repeat (first | (with_reducible first | exact HB.out | apply below_alloc | apply pw_below_drewN | apply below_drew1) | exact HB.out)⟩
      ·rw [if_neg c6] at H
       exact absurd H (by simp)
     ·rw [if_neg c5] at H
      exact absurd H (by simp)
    ·rw [if_neg c4] at H
     have c4b0 : decide (x5_1 < (l0.length : Int)) = false := decide_eq_false c4
     clear c4
     obtain rfl := Option.some.inj H
     go_wp2
     go_ret
     exact ⟨by first | rfl | (simp [errW_none, errW_some] <;> rfl) | (simp [*, errW_none, errW_some] <;> rfl), by repeat (first | (with_reducible first | exact HB.out | apply below_alloc | apply pw_below_drewN | apply below_drew1) | exact HB.out)⟩
 ·rw [if_neg c3] at H
  have c3b0 : ((l0.length : Int) == (l1.length : Int)) = false := beq_eq_false_iff_ne.mpr c3
  have c3b1 : ((l0.length : Int) != (l1.length : Int)) = true := bne_iff_ne.mpr c3
  have c3b2 : (l0.length == l1.length) = false := by first | simpa using c3 | (simp at c3 ⊢; omega)
  obtain rfl := Option.some.inj H
  go_enter Try.func44, Try.ntmps44
  go_wp2
  go_ret
  exact ⟨by first | rfl | (simp [errW_none, errW_some] <;> rfl) | (simp [*, errW_none, errW_some] <;> rfl), by repeat (first | (with_reducible first | exact HB.out | apply below_alloc | apply pw_below_drewN | apply below_drew1) | exact HB.out)⟩
end Go.Proofs.Ytcnpekpgghppnaa.Q
namespace Go.Proofs.Ytcnpekpgghppnaa.Q
open Go.RowKit Go.Proofs.YtcnpekpgghppnaaW.PrintWords Go.Proofs.YtcnpekpgghppnaaW.PrintLast Go.Proofs.YtcnpekpgghppnaaW.PrintMore
attribute [local go_sem] max2_int min2_int max_two min_two max_three min_three max_four min_four
set_option linter.unusedVariables false
set_option linter.unusedSimpArgs false
def wavelettop_samePlanes.f (k : Nat) (l0 : List (S26)) (l1 : List (S26)) : Option (Bool) := (waveletref02_SameAll.f k l0 l1).bind fun t314 => (some t314)
set_option maxHeartbeats 8000000 in
set_option maxRecDepth 100000 in
theorem wavelettop_samePlanes.calls (k : Nat) (A0 : Option Addr) (c0 : Nat) (l0 : List (S26)) (A1 : Option Addr) (c1 : Nat) (l1 : List (S26)) (r : Bool) (w : World) (hr0 : Kd.C k26 w A0 l0.length l0) (hc0 : l0.length ≤ c0) (hr1 : Kd.C k26 w A1 l1.length l1) (hc1 : l1.length ≤ c1) (h : wavelettop_samePlanes.f k l0 l1 = some r) :
  Calls Try.prog 18 #[.slice A0 l0.length c0, .slice A1 l1.length c1] w fun e w' => e = .returned (.bool r) ∧ Below w.heap.size w w' := by
 have HR0 := Aside0.mk hr0
 have HC0 := Aside0.mk hc0
 clear hr0 hc0
 have HR1 := Aside0.mk hr1
 have HC1 := Aside0.mk hc1
 clear hr1 hc1
 have HB := Aside0.mk (Below.refl w.heap.size w)
 have H : ((waveletref02_SameAll.f k l0 l1).bind fun t314 => (some t314)) = some r := h
 clear h
 replace H := Option.bind_eq_some_iff.mp H
 obtain ⟨t314, A30, H⟩ := H
 replace H : (some t314) = some r := H
 have A3 := Aside0.mk A30
 clear A30
 obtain rfl := Option.some.inj H
 go_enter Try.func18, Try.ntmps18
 go_wp2_with (first | ((with_reducible refine gate_callee (f := 44) rfl ?_); refine goesL_ (some 7) rfl rfl Try.func44 (by kernel_rfl) rfl #[.slice A0 l0.length c0, .slice A1 l1.length c1] rfl (by (try simp only [List.map_toArray, List.map_cons, List.map_nil]); first | done | rfl | (simp only [List.length_drop, List.length_take]; rfl)) ?_; (with_reducible refine (waveletref02_SameAll.calls k _ _ l0 _ _ l1 t314 _ ?side1 ?side2 ?side3 ?side4 A3.out).mono ?_); (case side1 => repeat (first | exact HR0.out | (with_reducible refine Kd.C_alloc ?_ _) | (with_reducible refine Kd.C_drewN ?_ _) | (with_reducible refine Kd.C_drew ?_))); (case side2 => exact HC0.out); (case side3 => repeat (first | exact HR1.out | (with_reducible refine Kd.C_alloc ?_ _) | (with_reducible refine Kd.C_drewN ?_ _) | (with_reducible refine Kd.C_drew ?_))); (case side4 => exact HC1.out); rintro e w4 ⟨rfl, hb⟩; refine ⟨_, rfl, ?_⟩; have n0_ := Aside0.mk (below_step (by repeat (first | (with_reducible first | exact HB.out | apply below_alloc | apply pw_below_drewN | apply below_drew1) | exact HB.out)) hb); clear HB; have HB := n0_; clear n0_; (try clear hb); (try clear hb2); (try clear hk); (try clear hi)))
 go_ret
 exact ⟨by first | rfl | (simp [errW_none, errW_some] <;> rfl) | (simp [*, errW_none, errW_some] <;> rfl), by repeat (first | (with_reducible first | exact HB.out | apply below_alloc | apply pw_below_drewN | apply below_drew1) | exact HB.out)⟩
end Go.Proofs.Ytcnpekpgghppnaa.Q
namespace Go.Proofs.Ytcnpekpgghppnaa.Q
open Go.RowKit Go.Proofs.YtcnpekpgghppnaaW.PrintWords Go.Proofs.YtcnpekpgghppnaaW.PrintLast Go.Proofs.YtcnpekpgghppnaaW.PrintMore
set_option linter.unusedVariables false
set_option linter.unusedSimpArgs false
/-- A part of a plane that can be cut out: what it is. -/
def CropOk (s0 t0 s1 t1 : Int) (S : List Int) (i : Rt) (X : List Int) : Prop :=
 ∃ (k m : Nat), PV s0 t0 s1 t1 S ∧ rect_Valid.f i.1 i.2.1 i.2.2.1 i.2.2.2 = some true ∧ rect_Contains.f s0 t0 s1 t1 i.1 i.2.1 i.2.2.1 i.2.2.2 = some true ∧ rect_Empty.f i.1 i.2.1 i.2.2.1 i.2.2.2 = some false ∧ rect_Area.f i.1 i.2.1 i.2.2.1 i.2.2.2 = some (m : Int) ∧ (0 < m ∧ m ≤ 1048576 ∧ (m : Int) = (i.2.2.1 - i.1) * (i.2.2.2 - i.2.1)) ∧ ((s0 ≤ i.1 ∧ i.1 ≤ i.2.2.1 ∧ i.2.2.1 ≤ s1) ∧ (t0 ≤ i.2.1 ∧ i.2.1 ≤ i.2.2.2 ∧ i.2.2.2 ≤ t1)) ∧ partF (i.2.2.1 - i.1) (s1 - s0) i.1 i.2.1 s0 t0 i.1 i.2.2.1 i.2.2.2 S k i.2.1 (List.replicate m 0) = some X
theorem plane_Crop.to {s0 t0 s1 t1 : Int} {A : Option Addr} {d : Nat} {S X : List Int} {i : Rt} {w : World} (hC : Kd.C (Kd.int .i64) w A S.length S) (hd : S.length ≤ d) (h : CropOk s0 t0 s1 t1 S i X) :
  Calls Try.prog 14 #[.agg #[.int .i64 s0, .int .i64 t0, .int .i64 s1, .int .i64 t1, .slice A S.length d], .agg #[.int .i64 i.1, .int .i64 i.2.1, .int .i64 i.2.2.1, .int .i64 i.2.2.2]] w fun e w' => ∃ v : Value, e = .returned (.tuple #[.agg #[.int .i64 i.1, .int .i64 i.2.1, .int .i64 i.2.2.1, .int .i64 i.2.2.2, v], .int .i64 0]) ∧ Kd.R (Kd.int .i64) 3 w' w.heap.size (fun _ => True) v X ∧ Below w.heap.size w w' := by
 obtain ⟨k, m, h1, h2, h3, h4, h5, h6, h7, h8⟩ := h
 exact plane_Crop.good k m d s0 t0 s1 t1 i.1 i.2.1 i.2.2.1 i.2.2.2 A S X w hC hd h1 h2 h3 h4 h5 h6 h7 h8
/-- A part (rectangle i, numbers S) can be laid into a plane: what comes out. -/
def PasteOk (x0 y0 x1 y1 : Int) (X : List Int) (i : Rt) (S Y : List Int) : Prop :=
 ∃ k : Nat, PV x0 y0 x1 y1 X ∧ PV i.1 i.2.1 i.2.2.1 i.2.2.2 S ∧ rect_Intersect.f x0 y0 x1 y1 i.1 i.2.1 i.2.2.1 i.2.2.2 = some i ∧ 0 < X.length ∧ ((x0 ≤ i.1 ∧ i.1 < i.2.2.1 ∧ i.2.2.1 ≤ x1) ∧ (y0 ≤ i.2.1 ∧ i.2.1 < i.2.2.2 ∧ i.2.2.2 ≤ y1)) ∧ partF (x1 - x0) (i.2.2.1 - i.1) x0 y0 i.1 i.2.1 i.1 i.2.2.1 i.2.2.2 S k i.2.1 X = some Y
theorem plane_Paste.to {x0 y0 x1 y1 : Int} {A0 A : Option Addr} {c0 d : Nat} {X S Y : List Int} {i : Rt} {w : World} (hC0 : Kd.C (Kd.int .i64) w A0 X.length X) (hd0 : X.length ≤ c0) (hC : Kd.C (Kd.int .i64) w A S.length S) (hd : S.length ≤ d) (h : PasteOk x0 y0 x1 y1 X i S Y) :
  Calls Try.prog 15 #[.agg #[.int .i64 x0, .int .i64 y0, .int .i64 x1, .int .i64 y1, .slice A0 X.length c0], .agg #[.int .i64 i.1, .int .i64 i.2.1, .int .i64 i.2.2.1, .int .i64 i.2.2.2, .slice A S.length d]] w fun e w' => ∃ v : Value, e = .returned (.tuple #[.agg #[.int .i64 x0, .int .i64 y0, .int .i64 x1, .int .i64 y1, v], .int .i64 0]) ∧ Kd.R (Kd.int .i64) 3 w' w.heap.size (fun _ => True) v Y ∧ Below w.heap.size w w' := by
 obtain ⟨k, h1, h2, h3, h4, h5, h6⟩ := h
 exact plane_Paste.good k c0 d x0 y0 x1 y1 i.1 i.2.1 i.2.2.1 i.2.2.2 A0 A X S Y w hC0 hd0 h1 hC hd h2 h3 h4 h5 h6
/-- A subband without what isn't needed of it. -/
def BandCut (b : Pl) (nd : Rt) (M : List Int) : Prop :=
 ∃ (i : Rt) (Z : List Int), waveletref01_Intersect.f b.x0 b.y0 b.x1 b.y1 nd.1 nd.2.1 nd.2.2.1 nd.2.2.2 = some i ∧ plane_New.f b.x0 b.y0 b.x1 b.y1 = some (b.x0, b.y0, b.x1, b.y1, Z, 0) ∧ ((waveletref01_Empty.f i.1 i.2.1 i.2.2.1 i.2.2.2 = some true ∧ M = Z) ∨ (waveletref01_Empty.f i.1 i.2.1 i.2.2.1 i.2.2.2 = some false ∧ ∃ X, CropOk b.x0 b.y0 b.x1 b.y1 b.D i X ∧ PasteOk b.x0 b.y0 b.x1 b.y1 Z i X M))
theorem Bds.rect {w : World} {g j : Nat} {ns : List Rt} {nd : Rt} (hb : w.heap[g]? = some (.cells (cellsR ns) 23 (0, 0))) (h : ns[j]? = some nd) : w.rangeAt g (j * 4) (rcells nd) := by
 intro i v hi
 rw [blk_cell hb (j * 4 + i), Nat.mul_comm]
 exact cellsR_get h hi
theorem same_two' {W : World} {x0 y0 x1 y1 : Int} {A5 A : Option Addr} {d5 c ks : Nat} {D : List Int} (h5 : D.length ≤ d5) (C5 : Kd.C (Kd.int .i64) W A5 D.length D) (hc : D.length ≤ c) (hC : Kd.C (Kd.int .i64) W A D.length D) (h : wavelettop_samePlanes.f ks [⟨⟨x0, y0, x1, y1⟩, D⟩] [⟨⟨x0, y0, x1, y1⟩, D⟩] = some true) :
  Calls Try.prog 18 #[.slice (some ⟨W.heap.size, 0, none⟩) 1 1, .slice (some ⟨W.heap.size + 1, 0, none⟩) 1 1] ((W.alloc (.cells #[.int .i64 x0, .int .i64 y0, .int .i64 x1, .int .i64 y1, .slice A5 D.length d5] 26)).alloc (.cells #[.int .i64 x0, .int .i64 y0, .int .i64 x1, .int .i64 y1, .slice A D.length c] 26)) fun e w' => e = .returned (.bool true) ∧ Below W.heap.size W w' := by
 have b1 := below_alloc (Below.refl W.heap.size W) (.cells #[.int .i64 x0, .int .i64 y0, .int .i64 x1, .int .i64 y1, .slice A5 D.length d5] 26)
 generalize hX : (Obj.cells #[.int .i64 x0, .int .i64 y0, .int .i64 x1, .int .i64 y1, .slice A5 D.length d5] 26) = X at *
 have b2 := below_alloc (Below.refl (W.alloc X).heap.size (W.alloc X)) (.cells #[.int .i64 x0, .int .i64 y0, .int .i64 x1, .int .i64 y1, .slice A D.length c] 26)
 generalize hY : (Obj.cells #[.int .i64 x0, .int .i64 y0, .int .i64 x1, .int .i64 y1, .slice A D.length c] 26) = Y at *
 have e1 : (W.alloc X).heap.size = W.heap.size + 1 := by first | exact World.size_alloc W X | exact Array.size_push _ | rfl
 have g1 : (W.alloc X).heap[W.heap.size]? = some (.cells #[.int .i64 x0, .int .i64 y0, .int .i64 x1, .int .i64 y1, .slice A5 D.length d5] 26 (0, 0)) := by rw [← hX]; exact blk_new W _
 have g2 : ((W.alloc X).alloc Y).heap[W.heap.size + 1]? = some (.cells #[.int .i64 x0, .int .i64 y0, .int .i64 x1, .int .i64 y1, .slice A D.length c] 26 (0, 0)) := by rw [← hY, ← e1]; exact blk_new (W.alloc X) _
 have b3 : Below W.heap.size W ((W.alloc X).alloc Y) := b1.trans (b2.mono (below_size b1))
 have h1 := one_C (blk_below g1 b2) h5 (Kd.C_below C5 b3)
 have h2 := one_C g2 hc (Kd.C_below hC b3)
 refine (wavelettop_samePlanes.calls ks (some ⟨W.heap.size, 0, none⟩) 1 [⟨⟨x0, y0, x1, y1⟩, D⟩] (some ⟨W.heap.size + 1, 0, none⟩) 1 [⟨⟨x0, y0, x1, y1⟩, D⟩] true _ h1 (Nat.le_refl _) h2 (Nat.le_refl _) h).mono ?_
 rintro e w' ⟨rfl, b⟩
 exact ⟨rfl, b3.trans (b.mono (below_size b3))⟩
set_option maxHeartbeats 8000000 in
set_option maxRecDepth 100000 in
theorem TopLocal.good (n res km ke kp kr ks k6 : Nat) (kk mg qa qb ar zn x0 y0 x1 y1 z0 z1 z2 z3 R0 R1 R2 R3 : Int) (A : Option Addr) (c : Nat) (D Ga Gb : List Int) (bs bs' : List Pl) (ns : List Rt) (wn : Rt) (u v : Nat → Pl) (w : World)
  (hr : Kd.C (Kd.int .i64) w A D.length D) (hc : D.length ≤ c) (hv : PV x0 y0 x1 y1 D) (hsm : wavelettop_smallPlane.f kp x0 y0 x1 y1 D = some true) (hkn : wavelettop_knownKernel.f kk = some true) (hwv : waveletref01_Valid.f z0 z1 z2 z3 = some true) (hm : lift_Margin.f km kk = some mg) (hmg : mg ≠ 0) (hex : pyramid_exceeds.f ke D 1048576 = some false) (hn : res ≤ n ∧ n ≤ 5) (hA : Ana kk n ⟨x0, y0, x1, y1, D⟩ bs) (hnd : ∀ W : World, Calls Try.prog 10 #[.agg #[.int .i64 x0, .int .i64 y0, .int .i64 x1, .int .i64 y1], .int .i64 (n : Int), .int .i64 (res : Int), .agg #[.int .i64 z0, .int .i64 z1, .int .i64 z2, .int .i64 z3], .int .i64 kk] W fun e' w' => ∃ g : Nat, e' = .returned (.slice (some ⟨g, 0, none⟩) (3 * n + 1) (3 * n + 1)) ∧ w'.heap[g]? = some (.cells (cellsR ns) 23 (0, 0)) ∧ Below W.heap.size W w') (hnl : ns.length = 3 * n + 1) (hcu : ∀ (j : Nat) (b : Pl) (nd : Rt), bs[j]? = some b → ns[j]? = some nd → ∃ b' : Pl, bs'[j]? = some b' ∧ (b'.x0 = b.x0 ∧ b'.y0 = b.y0 ∧ b'.x1 = b.x1 ∧ b'.y1 = b.y1) ∧ BandCut b nd b'.D) (hbl : bs'.length = bs.length) (hun : u res = ⟨R0, R1, R2, R3, Ga⟩) (hu0 : bs[0]? = some (u 0)) (hus : ∀ q, q < res → SynStep kk x0 y0 x1 y1 (n : Int) bs q (u q) (u (q + 1))) (hbo : ∀ (j : Nat) (b : Pl), j ≤ 3 * res → bs[j]? = some b → BandOk x0 y0 x1 y1 (n : Int) j b) (hvn : v res = ⟨R0, R1, R2, R3, Gb⟩) (hv0 : bs'[0]? = some (v 0)) (hvs : ∀ q, q < res → SynStep kk x0 y0 x1 y1 (n : Int) bs' q (v q) (v (q + 1))) (hvo : ∀ (j : Nat) (b : Pl), j ≤ 3 * res → bs'[j]? = some b → BandOk x0 y0 x1 y1 (n : Int) j b) (hrs : pyramid_Resolution.f kr x0 y0 x1 y1 (n : Int) (res : Int) = some (R0, R1, R2, R3)) (har : rect_Area.f R0 R1 R2 R3 = some ar) (hal : ar ≤ 1048576) (hrv : rect_Valid.f x0 y0 x1 y1 = some true) (h06 : waveletref06_Resolution.f k6 x0 y0 x1 y1 (n : Int) (res : Int) = some (R0, R1, R2, R3)) (hwi : waveletref01_Intersect.f z0 z1 z2 z3 R0 R1 R2 R3 = some wn) (hen : waveletref01_Empty.f wn.1 wn.2.1 wn.2.2.1 wn.2.2.2 = some true ∨ (waveletref01_Empty.f wn.1 wn.2.1 wn.2.2.1 wn.2.2.2 = some false ∧ ∃ X, CropOk R0 R1 R2 R3 Ga wn X ∧ CropOk R0 R1 R2 R3 Gb wn X ∧ wavelettop_samePlanes.f ks [⟨⟨wn.1, wn.2.1, wn.2.2.1, wn.2.2.2⟩, X⟩] [⟨⟨wn.1, wn.2.1, wn.2.2.1, wn.2.2.2⟩, X⟩] = some true)) (hqa : IntKind.i64.wrap qa = qa ∧ Int.tmod qa 6 = (n : Int)) (hzn : wrap64 ((n : Int) + 1) = zn ∧ zn ≠ 0) (hqb : IntKind.i64.wrap qb = qb ∧ Int.tmod qb zn = (res : Int)) :
  Calls Try.prog 3 #[.agg #[.int .i64 x0, .int .i64 y0, .int .i64 x1, .int .i64 y1, .slice A D.length c], .agg #[.int .u8 qa, .int .u8 qb], .int .i64 kk, .agg #[.int .i64 z0, .int .i64 z1, .int .i64 z2, .int .i64 z3]] w fun e w' => e = .returned (.bool true) ∧ Below w.heap.size w w' := by
 have HR := Aside0.mk hr
 have HC := Aside0.mk hc
 have HV := Aside0.mk hv
 have HSM := Aside0.mk hsm
 have HKN := Aside0.mk hkn
 have HWV := Aside0.mk hwv
 have HM := Aside0.mk hm
 have HMG := Aside0.mk hmg
 have HEX := Aside0.mk hex
 have HN := Aside0.mk hn
 have HA := Aside0.mk hA
 have HND := Aside0.mk hnd
 have HNL := Aside0.mk hnl
 have HCU := Aside0.mk hcu
 have HBL := Aside0.mk hbl
 have HUN := Aside0.mk hun
 have HU0 := Aside0.mk hu0
 have HUS := Aside0.mk hus
 have HBO := Aside0.mk hbo
 have HVN := Aside0.mk hvn
 have HV0 := Aside0.mk hv0
 have HVS := Aside0.mk hvs
 have HVO := Aside0.mk hvo
 have HRS := Aside0.mk hrs
 have HAR := Aside0.mk har
 have HAL := Aside0.mk hal
 have HRV := Aside0.mk hrv
 have H06 := Aside0.mk h06
 have HWI := Aside0.mk hwi
 have HEN := Aside0.mk hen
 obtain ⟨hqa1, hqa2⟩ := hqa
 obtain ⟨hqb1, hqb2⟩ := hqb
 obtain ⟨hzn1, hzn2⟩ := hzn
 have hzd : decide (zn = 0) = false := decide_eq_false hzn2
 have hze : (zn == 0) = false := beq_eq_false_iff_ne.mpr hzn2
 clear hr hc hv hsm hkn hwv hm hmg hex hn hA hnd hnl hcu hbl hun hu0 hus hbo hvn hv0 hvs hvo hrs har hal hrv h06 hwi hen
 have K00 := Aside0.mk (Hold.nil w)
 go_enter Try.func3, Try.ntmps3
 go_upto_region 8 with (first
  | ((with_reducible refine gate_dst (N := 4) rfl ?_); refine bT (N := 4) (#[.int .i64 x0, .int .i64 y0, .int .i64 x1, .int .i64 y1, .slice A D.length c]) 26 ?_; intro g4 hg W4 hbox hb; have K1 := Aside0.mk (K00.out.box (Nat.le_refl _) hg hbox hb trivial); clear hg hbox hb K00)
  | ((with_reducible refine gate_dst (N := 5) rfl ?_); refine bT (N := 5) (#[.int .u8 qa, .int .u8 qb]) 27 ?_; intro g5 hg W5 hbox hb; have K2 := Aside0.mk (K1.out.box (below_size K1.out.below) hg hbox hb trivial); clear hg hbox hb K1)
  | ((with_reducible refine gate_dst (N := 7) rfl ?_); refine bT (N := 7) (#[.int .i64 z0, .int .i64 z1, .int .i64 z2, .int .i64 z3]) 23 ?_; intro g7 hg W7 hbox hb; have K := Aside0.mk (K2.out.box (below_size K2.out.below) hg hbox hb trivial); clear hg hbox hb K2; have c50 : W7.cell? ⟨g5, 0, none⟩ = some (.int .u8 qa) := K.out.cell 1 rfl 0 rfl; have c51 : W7.cell? ⟨g5, 1, none⟩ = some (.int .u8 qb) := K.out.cell 1 rfl 1 rfl)
  | ((with_reducible refine gate_dst (N := 38) rfl ?_); refine load_ev rfl 26 (.tmp 4) rfl rfl (K.out.get 2 rfl) Try.underlying26 rfl ?_)
  | (go_at_call 6; (with_reducible refine (wavelettop_smallPlane.calls kp x0 y0 x1 y1 A c D true _ (Kd.C_below HR.out K.out.below) HC.out HSM.out).mono ?_); rintro _ w6 ⟨rfl, b⟩; clear c50 c51; replace K := Aside0.mk (K.out.call (below_size K.out.below) b); clear b)
  | ((try (refine gate_guard (by rfl) ?_; dsimp only)); go_at_call 7; (with_reducible refine (wavelettop_knownKernel.calls kk true _ HKN.out).mono ?_); rintro _ w7 ⟨rfl, b⟩; replace K := Aside0.mk (K.out.call (below_size K.out.below) b.below); clear b)
  | ((with_reducible refine gate_dst (N := 47) rfl ?_); (try (refine gate_guard (by rfl) ?_; dsimp only)); refine load_ev rfl 23 (.tmp 7) rfl rfl (K.out.get 0 rfl) Try.underlying23 rfl ?_)
  | ((try (refine gate_guard (by rfl) ?_; dsimp only)); go_at_call 8; (with_reducible refine (waveletref01_Valid.calls z0 z1 z2 z3 true _ HWV.out).mono ?_); rintro _ w8 ⟨rfl, b⟩; replace K := Aside0.mk (K.out.call (below_size K.out.below) b); clear b)
  | ((with_reducible refine gate_dst (N := 52) rfl ?_); refine load_ev rfl 26 (.tmp 4) rfl rfl (K.out.get 2 rfl) Try.underlying26 rfl ?_)
  | (go_at_call 9; (with_reducible refine (pyramid_Analyze.good km ke n kk mg x0 y0 x1 y1 A c D bs _ (Kd.C_below HR.out K.out.below) HC.out HV.out HM.out HMG.out HEX.out HN.out.2 HA.out).mono ?_); rintro _ w9 ⟨g, ps, hps, rfl, hK2⟩; replace K := Aside0.mk (K.out.call (below_size K.out.below) hK2.below); have HPS := Aside0.mk hps; have HBD0 := Aside0.mk hK2.bds; clear hps hK2))
 clear hqa1 hqa2 hqb1 hqb2 hzn1 hzd hze
 obtain ⟨m, hm⟩ : ∃ m : Nat, m = 3 * n + 1 := ⟨_, rfl⟩
 have hpl : ps.length = m := by have h1 := HA.out.len; have h2 := congrArg List.length HPS.out; rw [List.length_map] at h2; omega
 have HMN := Aside0.mk (And.intro hm (And.intro hpl (show m ≤ 16 by have := HN.out; omega)))
 have hw3 : wrap64 (3 * (n : Int)) = 3 * (n : Int) := wid (by omega) (by have := HN.out; omega)
 have hw4 : wrap64 (3 * (n : Int) + 1) = (m : Int) := by rw [wid (by omega) (by have := HN.out; omega)]; omega
 rw [hpl]
 clear hm hpl
 go_upto_region 12 with (first
  | ((with_reducible refine gate_dst (N := 61) rfl ?_); refine load_mid_ev (i := 0) (cs := #[.int .i64 x0, .int .i64 y0, .int .i64 x1, .int .i64 y1]) rfl 23 (.tmp 60) rfl rfl (K.out.get 2 rfl) (fun j v hj => by rcases j with _ | _ | _ | _ | j <;> first | exact hj | (simp at hj)) Try.underlying23 rfl rfl ?_)
  | ((with_reducible refine gate_dst (N := 64) rfl ?_); refine load_ev rfl 23 (.tmp 7) rfl rfl (K.out.get 0 rfl) Try.underlying23 rfl ?_)
  | (go_at_call 10; (with_reducible refine (HND.out _).mono ?_); rintro _ w10 ⟨gN, rfl, hns, hb⟩; rw [← HMN.out.1]; replace K := Aside0.mk (K.out.call (K.out.size rfl) hb); replace HBD0 := Aside0.mk (HBD0.out.below hb); have HNS := Aside0.mk hns; clear hns hb))
 have HB0 := Aside0.mk (Back.start w10)
 clear hw3 hw4 HSM HKN HWV HEX HV HA HND
 go_wp2
 go_loopg [14, 83] m (fun kq v14 v83 w' => ∃ (j : Nat) (qs : List (Value × Pl)), v83 = .int .i64 (j : Int) ∧ j + kq = m ∧ Aside0 (qs.map (·.2) = bs'.take j) ∧ Aside0 (Back w10.heap.size w10 w' v14 qs))
 case atStart => exact ⟨0, [], rfl, by omega, ⟨by simp⟩, HB0⟩
 case round =>
 clear HB0
 obtain ⟨j, qs, rfl, hj, HQS, HBK⟩ := hrel
 obtain ⟨W1, hW1⟩ : ∃ W1, W1 = wr := ⟨wr, rfl⟩
 subst hW1
 by_cases hjm : j < m
 ·obtain ⟨f0, hf0⟩ : ∃ f0, gk = f0 + 1 := ⟨gk - 1, by omega⟩
  subst hf0
  have hb0 : decide ((j : Int) < (m : Int)) = true := decide_eq_true (by omega)
  have p0 : (0 ≤ (j : Int)) = True := eq_true (by omega)
  have p1 : ((j : Int) < (m : Int)) = True := eq_true (by omega)
  have p2 : (j < m) = True := eq_true hjm
  have hwj : wrap64 ((j : Int) + 1) = ((j + 1 : Nat) : Int) := by have := HMN.out; unfold wrap64; omega
  have HQL := Aside0.mk (show qs.length ≤ 16 by have h1 := congrArg List.length HQS.out; rw [List.length_map, List.length_take] at h1; have := HMN.out; omega)
  obtain ⟨p, hp⟩ : ∃ p, ps[j]? = some p := ⟨_, List.getElem?_eq_getElem (show j < ps.length by have := HMN.out; omega)⟩
  obtain ⟨nd, hnd⟩ : ∃ nd, ns[j]? = some nd := ⟨_, List.getElem?_eq_getElem (show j < ns.length by have := HMN.out; have := HNL.out; omega)⟩
  have hbj : bs[j]? = some p.2 := by rw [← HPS.out, List.getElem?_map, hp]; rfl
  obtain ⟨b', hb', hrc, hcut⟩ := HCU.out j p.2 nd hbj hnd
  have hrg := HBD0.out.cells j p hp
  obtain ⟨Aq, cq, hpv, hcq⟩ := HBD0.out.data j p hp
  obtain ⟨pv, q0, q1, q2, q3, Dq⟩ := p
  obtain ⟨b0, b1, b2, b3, M⟩ := b'
  dsimp only at hpv hcq hbj hcut hrc
  obtain ⟨rfl, rfl, rfl, rfl⟩ := hrc
  subst hpv
  obtain ⟨i, Z, hin, hnew, hcase⟩ := hcut
  dsimp only at hin hnew hcase
  have HRG := Aside0.mk (show w10.rangeAt g (j * 5) [.int .i64 b0, .int .i64 b1, .int .i64 b2, .int .i64 b3, .slice Aq Dq.length cq] by rw [Nat.mul_comm]; exact hrg)
  have HRN := Aside0.mk (Bds.rect HNS.out hnd)
  have HCQ := Aside0.mk hcq
  have HIN := Aside0.mk hin
  have HNW := Aside0.mk hnew
  have HBJ := Aside0.mk hb'
  have HCASE := Aside0.mk hcase
  have HJM := Aside0.mk (And.intro hj hjm)
  clear hrg hcq hin hnew hcase hbj hb' hp hnd hj hjm
  have K30 := Aside0.mk (Hold.nil W1)
  go_upto_region 18 with (first
   | ((with_reducible refine gate_dst (N := 87) rfl ?_); refine load_range_ev (cs := [.int .i64 b0, .int .i64 b1, .int .i64 b2, .int .i64 b3, .slice Aq Dq.length cq]) rfl 26 (.tmp 86) rfl rfl (range_below HRG.out HBK.out.below) Try.underlying26 rfl rfl ?_)
   | ((with_reducible refine gate_dst (N := 16) rfl ?_); refine bT (N := 16) (#[.int .i64 0, .int .i64 0, .int .i64 0, .int .i64 0, .slice none 0 0]) 26 ?_; intro g16 hg W16 hbox hb; have K3 := Aside0.mk (K30.out.box (Nat.le_refl _) hg hbox hb trivial); clear hg hbox hb K30)
   | ((with_reducible refine gate_store (t := 26) (p := 16) (v := .tmp 87) rfl ?_); refine store_ev rfl rfl 26 (.tmp 16) (.tmp 87) rfl rfl rfl (K3.out.get 0 rfl) rfl rfl (by first | (kernel_rfl) | (simp [Value.oneCell'])) ?_; intro W16s hs; replace K3 := Aside0.mk (K3.out.stored 0 rfl hs); clear hs)
   | ((with_reducible refine gate_dst (N := 90) rfl ?_); refine load_mid_ev (i := 0) (cs := #[.int .i64 b0, .int .i64 b1, .int .i64 b2, .int .i64 b3]) rfl 23 (.tmp 89) rfl rfl (K3.out.get 0 rfl) (fun j v hj => by rcases j with _ | _ | _ | _ | j <;> first | exact hj | (simp at hj)) Try.underlying23 rfl rfl ?_)
   | (go_at_call 11; (with_reducible refine (plane_New.calls b0 b1 b2 b3 b0 b1 b2 b3 Z 0 _ HNW.out).mono ?_); rintro _ w11 ⟨vZ, rfl, hR, hb⟩; obtain ⟨AZ, cZ, rfl⟩ := Kd.R_slice hR; replace K3 := Aside0.mk (K3.out.add (below_size K3.out.below) hR hb); clear hR hb)
   | ((with_reducible refine gate_dst (N := 17) rfl ?_); refine bT (N := 17) (#[.int .i64 0, .int .i64 0, .int .i64 0, .int .i64 0, .slice none 0 0]) 26 ?_; intro g17 hg W17 hbox hb; replace K3 := Aside0.mk (K3.out.box (below_size K3.out.below) hg hbox hb trivial); clear hg hbox hb)
   | ((with_reducible refine gate_store (t := 26) (p := 17) (v := .tmp 92) rfl ?_); refine store_ev rfl rfl 26 (.tmp 17) (.tmp 92) rfl rfl rfl (K3.out.get 0 rfl) rfl rfl (by first | (kernel_rfl) | (simp [Value.oneCell'])) ?_; intro W17s hs; replace K3 := Aside0.mk (K3.out.stored 0 rfl hs); clear hs))
  clear p0 p1 p2 hb0
  go_cut [19] (fun v19 wc => ∃ g19 : Nat, v19 = .pointer (some ⟨g19, 0, none⟩) ∧ Aside0 (Hold W1.heap.size W1 wc ((g19, 23, #[.int .i64 i.1, .int .i64 i.2.1, .int .i64 i.2.2.1, .int .i64 i.2.2.2]) :: [(g17, 26, #[.int .i64 b0, .int .i64 b1, .int .i64 b2, .int .i64 b3, .slice AZ Z.length cZ]), (g16, 26, #[.int .i64 b0, .int .i64 b1, .int .i64 b2, .int .i64 b3, .slice Aq Dq.length cq])]) [(.slice AZ Z.length cZ, Z)]))
  case first =>
   replace K3 := Aside0.mk (K3.out.drew)
   have P0 : (0 ≤ (j : Int)) = True := eq_true (by omega)
   have P1 : ((j : Int) < (m : Int)) = True := eq_true (by have := HJM.out; omega)
   have P2 : (j < m) = True := eq_true HJM.out.2
   refine start_ (n := 9) (S := fun w' => w'.heap[g16]? = some (.cells #[.int .i64 b0, .int .i64 b1, .int .i64 b2, .int .i64 b3, .slice Aq Dq.length cq] 26 (0, 0)) ∧ w'.rangeAt gN (j * 4) [.int .i64 nd.1, .int .i64 nd.2.1, .int .i64 nd.2.2.1, .int .i64 nd.2.2.2]) (ds := [8]) #[false, false, false, false, false, false, false, false, false] (by kernel_rfl) rfl rfl ⟨K3.out.get 1 rfl, range_below HRN.out (HBK.out.below.trans (K3.out.below.mono (HBK.out.size rfl)))⟩ (fun hHeld0 => ?_)
   generalize hw2 : W17s.drew = w2 at *
   clear hw2
   have hHeld := Aside0.mk hHeld0
   clear hHeld0
   refine pT (i := 0) (N := some 96) ?_
   refine take_ (i := 1) (N := some 97) (v := .agg #[.int .i64 b0, .int .i64 b1, .int .i64 b2, .int .i64 b3]) (a' := ?_) #[true, true, false, false, false, false, false, false, false] rfl rfl (by kernel_rfl) (fun _ _ _ h => h) (load_mid_yields (i := 0) (cs := #[.int .i64 b0, .int .i64 b1, .int .i64 b2, .int .i64 b3]) (by rfl) 23 (.tmp 96) rfl rfl (fun _ h => h.1) (fun j v hj => by rcases j with _ | _ | _ | _ | j <;> first | exact hj | (simp at hj)) Try.underlying23 rfl rfl) hHeld.out ?_ ?_
   rotate_left
   ·simp only [Act.put, List.setIfInBounds_toArray, List.set_cons_zero, List.set_cons_succ, i64_w, i32_w]
    rfl
   refine pT (i := 2) (N := some 98) ?_
   refine pT (i := 3) (N := some 99) ?_
   refine pT (i := 4) (N := some 100) ?_
   refine take_ (i := 5) (N := some 101) (v := .agg #[.int .i64 nd.1, .int .i64 nd.2.1, .int .i64 nd.2.2.1, .int .i64 nd.2.2.2]) (a' := ?_) #[true, true, true, true, true, true, false, false, false] rfl rfl (by kernel_rfl) (fun _ _ _ h => h) (load_range_yields (cs := [.int .i64 nd.1, .int .i64 nd.2.1, .int .i64 nd.2.2.1, .int .i64 nd.2.2.2]) (by rfl) 23 (.tmp 100) rfl rfl (fun _ h => h.2) Try.underlying23 rfl rfl) hHeld.out ?_ ?_
   rotate_left
   ·simp only [Act.put, List.setIfInBounds_toArray, List.set_cons_zero, List.set_cons_succ, i64_w, i32_w]
    rfl
   refine two_ (i := 6) (j := 7) (Ni := some 102) (Nj := some 19) #[true, true, true, true, true, true, true, false, false] #[true, true, true, true, true, true, false, true, false] rfl rfl rfl rfl (by kernel_rfl) (by decide) (by decide) (fun KC hK => ?_) (fun KC hK => ?_)
   ·skip
    refine goes_ Try.func12 (by kernel_rfl) rfl #[.agg #[.int .i64 b0, .int .i64 b1, .int .i64 b2, .int .i64 b3], .agg #[.int .i64 nd.1, .int .i64 nd.2.1, .int .i64 nd.2.2.1, .int .i64 nd.2.2.2]] (by rfl) rfl rfl (by simp only [List.map_toArray, List.map_cons, List.map_nil]; rfl) ?_
    refine (waveletref01_Intersect.calls b0 b1 b2 b3 nd.1 nd.2.1 nd.2.2.1 nd.2.2.2 i.1 i.2.1 i.2.2.1 i.2.2.2 _ HIN.out).mono ?_
    rintro _ w5_ ⟨rfl, bb⟩
    refine ⟨_, rfl, ?_⟩
    replace K3 := Aside0.mk (K3.out.call (below_size K3.out.below) bb)
    clear bb hHeld
    refine hK.out _ _ ⟨K3.out.get 1 rfl, range_below HRN.out (HBK.out.below.trans (K3.out.below.mono (HBK.out.size rfl)))⟩ (fun hHeld0 => ?_)
    have hHeld := Aside0.mk hHeld0
    clear hHeld0
    clear hK KC
    refine nT ?_
    refine one_ (i := 7) (N := some 19) #[true, true, true, true, true, true, true, true, false] rfl rfl (by kernel_rfl) (by decide) (fun KC hK => ?_)
    refine box_step ?hg (N := 19) ?hd (cs := #[.int .i64 0, .int .i64 0, .int .i64 0, .int .i64 0]) (t := 23) ?hr ?_
    case hd => rfl
    case hg => rfl
    case hr => first | (go_simp; done) | (go_simp; rfl)
    intro g19 hg w7_ hbox hb
    replace K3 := Aside0.mk (K3.out.box (below_size K3.out.below) hg hbox hb trivial)
    clear hg hbox hb hHeld
    refine hK.out _ _ ⟨K3.out.get 2 rfl, range_below HRN.out (HBK.out.below.trans (K3.out.below.mono (HBK.out.size rfl)))⟩ (fun hHeld0 => ?_)
    have hHeld := Aside0.mk hHeld0
    clear hHeld0
    clear hK KC
    refine nT ?_
    refine last_ (i := 8) (N := none) #[true, true, true, true, true, true, true, true, true] rfl rfl (by kernel_rfl) (by decide) (fun KC hK => ?_)
    refine store_step (cs := #[.int .i64 i.1, .int .i64 i.2.1, .int .i64 i.2.2.1, .int .i64 i.2.2.2]) (by rfl) rfl 23 (.tmp 19) (.tmp 102) rfl rfl (by kernel_rfl) (K3.out.get 0 rfl) rfl rfl (by first | (kernel_rfl) | (simp [Value.oneCell'])) ?_
    intro WS hs
    refine hK.out _ _ ?_
    replace K3 := Aside0.mk (K3.out.stored 0 rfl hs)
    clear hK KC hs hHeld
    refine done_ (by kernel_rfl) ?_
    go_wp2
    go_meet
    case rel => exact ⟨_, rfl, ⟨K3.out⟩⟩
   ·skip
    refine box_step ?hg (N := 19) ?hd (cs := #[.int .i64 0, .int .i64 0, .int .i64 0, .int .i64 0]) (t := 23) ?hr ?_
    case hd => rfl
    case hg => rfl
    case hr => first | (go_simp; done) | (go_simp; rfl)
    intro g19 hg w7_ hbox hb
    replace K3 := Aside0.mk (K3.out.box (below_size K3.out.below) hg hbox hb trivial)
    clear hg hbox hb hHeld
    refine hK.out _ _ ⟨K3.out.get 2 rfl, range_below HRN.out (HBK.out.below.trans (K3.out.below.mono (HBK.out.size rfl)))⟩ (fun hHeld0 => ?_)
    have hHeld := Aside0.mk hHeld0
    clear hHeld0
    clear hK KC
    refine nT ?_
    refine one_ (i := 6) (N := some 102) #[true, true, true, true, true, true, true, true, false] rfl rfl (by kernel_rfl) (by decide) (fun KC hK => ?_)
    refine goes_ Try.func12 (by kernel_rfl) rfl #[.agg #[.int .i64 b0, .int .i64 b1, .int .i64 b2, .int .i64 b3], .agg #[.int .i64 nd.1, .int .i64 nd.2.1, .int .i64 nd.2.2.1, .int .i64 nd.2.2.2]] (by rfl) rfl rfl (by simp only [List.map_toArray, List.map_cons, List.map_nil]; rfl) ?_
    refine (waveletref01_Intersect.calls b0 b1 b2 b3 nd.1 nd.2.1 nd.2.2.1 nd.2.2.2 i.1 i.2.1 i.2.2.1 i.2.2.2 _ HIN.out).mono ?_
    rintro _ w5_ ⟨rfl, bb⟩
    refine ⟨_, rfl, ?_⟩
    replace K3 := Aside0.mk (K3.out.call (below_size K3.out.below) bb)
    clear bb hHeld
    refine hK.out _ _ ⟨K3.out.get 2 rfl, range_below HRN.out (HBK.out.below.trans (K3.out.below.mono (HBK.out.size rfl)))⟩ (fun hHeld0 => ?_)
    have hHeld := Aside0.mk hHeld0
    clear hHeld0
    clear hK KC
    refine nT ?_
    refine last_ (i := 8) (N := none) #[true, true, true, true, true, true, true, true, true] rfl rfl (by kernel_rfl) (by decide) (fun KC hK => ?_)
    refine store_step (cs := #[.int .i64 i.1, .int .i64 i.2.1, .int .i64 i.2.2.1, .int .i64 i.2.2.2]) (by rfl) rfl 23 (.tmp 19) (.tmp 102) rfl rfl (by kernel_rfl) (K3.out.get 0 rfl) rfl rfl (by first | (kernel_rfl) | (simp [Value.oneCell'])) ?_
    intro WS hs
    refine hK.out _ _ ?_
    replace K3 := Aside0.mk (K3.out.stored 0 rfl hs)
    clear hK KC hs hHeld
    refine done_ (by kernel_rfl) ?_
    go_wp2
    go_meet
    case rel => exact ⟨_, rfl, ⟨K3.out⟩⟩
  case rest =>
  obtain ⟨g19, rfl, K3⟩ := hcut
  have HW1 := Aside0.mk (HBK.out.size rfl)
  have hcs := HCASE.out
  clear HCASE
  rcases hcs with ⟨hem, rfl⟩ | ⟨hem, X, hcr, hpa⟩
  ·have HEM := Aside0.mk hem
   clear hem
   go_wp2_with (first
    | ((with_reducible refine gate_dst (N := 103) rfl ?_); refine load_ev rfl 23 (.tmp 19) rfl rfl (K3.out.get 0 rfl) Try.underlying23 rfl ?_)
    | (go_at_call 13; (with_reducible refine (waveletref01_Empty.calls i.1 i.2.1 i.2.2.1 i.2.2.2 true _ HEM.out).mono ?_); rintro _ w13 ⟨rfl, bb⟩; replace K3 := Aside0.mk (K3.out.call (below_size K3.out.below) bb); clear bb)
    | ((with_reducible refine gate_dst (N := 123) rfl ?_); refine load_ev rfl 26 (.tmp 17) rfl rfl (K3.out.get 1 rfl) Try.underlying26 rfl ?_)
    | ((with_reducible refine gate_builtin (b := .append) (xs := #[.tmp 122, .tmp 124]) rfl ?_); at_builtin; have HB1 := Aside0.mk (HBK.out.call HW1.out K3.out.below); refine Kd.R_append rawP (w0 := w10) w10.heap.size rfl (.tmp 122) (.tmp 124) 32 26 _ 56 rfl Try.underlying32 info26 rfl (by decide) (by decide) u14 (qs.map pcells) (pcells (.slice AZ M.length cZ, (⟨b0, b1, b2, b3, M⟩ : Pl))) (pcells (.slice AZ M.length cZ, (⟨b0, b1, b2, b3, M⟩ : Pl))) (fun _ => True) (fun _ => False) rfl rfl pcells_raw (fun _ h => h.elim) (fun _ _ => trivial) HB1.out.row HB1.out.below (HB1.out.size rfl) (by rw [List.length_map]; have := HQL.out; omega) ?_; intro v14 w14 hR hb hg _; have HB2' := Aside0.mk (HB1.out.add (q := (.slice AZ M.length cZ, (⟨b0, b1, b2, b3, M⟩ : Pl))) (K3.out.rowAt 0 rfl) HW1.out hR hb hg); clear hR hb hg))
   go_roundg f0
   case measure => omega
   case rel => exact ⟨j + 1, qs ++ [(.slice AZ M.length cZ, (⟨b0, b1, b2, b3, M⟩ : Pl))], by first | rfl | rw [hwj], by have := HJM.out; omega, ⟨by rw [List.map_append, HQS.out, List.take_add_one, HBJ.out]; rfl⟩, HB2'⟩
  ·have HEM := Aside0.mk hem
   have HCR := Aside0.mk hcr
   have HPA := Aside0.mk hpa
   clear hem hcr hpa
   go_wp2_with (first
    | ((with_reducible refine gate_dst (N := 103) rfl ?_); refine load_ev rfl 23 (.tmp 19) rfl rfl (K3.out.get 0 rfl) Try.underlying23 rfl ?_)
    | (go_at_call 13; (with_reducible refine (waveletref01_Empty.calls i.1 i.2.1 i.2.2.1 i.2.2.2 false _ HEM.out).mono ?_); rintro _ w13 ⟨rfl, bb⟩; replace K3 := Aside0.mk (K3.out.call (below_size K3.out.below) bb); clear bb)
    | ((with_reducible refine gate_dst (N := 107) rfl ?_); refine load_ev rfl 26 (.tmp 16) rfl rfl (K3.out.get 2 rfl) Try.underlying26 rfl ?_)
    | ((with_reducible refine gate_dst (N := 108) rfl ?_); refine load_ev rfl 23 (.tmp 19) rfl rfl (K3.out.get 0 rfl) Try.underlying23 rfl ?_)
    | (go_at_call 14; (with_reducible refine (plane_Crop.to (Kd.C_below HCQ.out.2 (HBK.out.below.trans (K3.out.below.mono (HBK.out.size rfl)))) HCQ.out.1 HCR.out).mono ?_); rintro _ w15 ⟨vX, rfl, hR, hb⟩; obtain ⟨AX, cX, rfl⟩ := Kd.R_slice hR; replace K3 := Aside0.mk (K3.out.add (below_size K3.out.below) hR hb); clear hR hb)
    | ((with_reducible refine gate_dst (N := 20) rfl ?_); refine bT (N := 20) (#[.int .i64 0, .int .i64 0, .int .i64 0, .int .i64 0, .slice none 0 0]) 26 ?_; intro g20 hg W20 hbox hb; replace K3 := Aside0.mk (K3.out.box (below_size K3.out.below) hg hbox hb trivial); clear hg hbox hb)
    | ((with_reducible refine gate_store (t := 26) (p := 20) (v := .tmp 110) rfl ?_); refine store_ev rfl rfl 26 (.tmp 20) (.tmp 110) rfl rfl rfl (K3.out.get 0 rfl) rfl rfl (by first | (kernel_rfl) | (simp [Value.oneCell'])) ?_; intro W20s hs; replace K3 := Aside0.mk (K3.out.stored 0 rfl hs); clear hs)
    | ((with_reducible refine gate_dst (N := 115) rfl ?_); refine load_ev rfl 26 (.tmp 17) rfl rfl (K3.out.get 2 rfl) Try.underlying26 rfl ?_)
    | ((with_reducible refine gate_dst (N := 116) rfl ?_); refine load_ev rfl 26 (.tmp 20) rfl rfl (K3.out.get 0 rfl) Try.underlying26 rfl ?_)
    | (go_at_call 15; have HP := plane_Paste.to (K3.out.readAt 1 rfl).2.2 (K3.out.readAt 1 rfl).2.1 (K3.out.readAt 0 rfl).2.2 (K3.out.readAt 0 rfl).2.1 HPA.out; (with_reducible refine HP.mono ?_); clear HP; rintro _ w16 ⟨vM, rfl, hR, hb⟩; obtain ⟨AM, cM, rfl⟩ := Kd.R_slice hR; replace K3 := Aside0.mk (K3.out.add (below_size K3.out.below) hR hb); clear hR hb)
    | ((with_reducible refine gate_store (t := 26) (p := 17) (v := .tmp 118) rfl ?_); refine store_ev rfl rfl 26 (.tmp 17) (.tmp 118) rfl rfl rfl (K3.out.get 2 rfl) rfl rfl (by first | (kernel_rfl) | (simp [Value.oneCell'])) ?_; intro W17t hs; replace K3 := Aside0.mk (K3.out.stored 2 rfl hs); clear hs)
    | ((with_reducible refine gate_dst (N := 123) rfl ?_); refine load_ev rfl 26 (.tmp 17) rfl rfl (K3.out.get 2 rfl) Try.underlying26 rfl ?_)
    | ((with_reducible refine gate_builtin (b := .append) (xs := #[.tmp 122, .tmp 124]) rfl ?_); at_builtin; have HB1 := Aside0.mk (HBK.out.call HW1.out K3.out.below); refine Kd.R_append rawP (w0 := w10) w10.heap.size rfl (.tmp 122) (.tmp 124) 32 26 _ 56 rfl Try.underlying32 info26 rfl (by decide) (by decide) u14 (qs.map pcells) (pcells (.slice AM M.length cM, (⟨b0, b1, b2, b3, M⟩ : Pl))) (pcells (.slice AM M.length cM, (⟨b0, b1, b2, b3, M⟩ : Pl))) (fun _ => True) (fun _ => False) rfl rfl pcells_raw (fun _ h => h.elim) (fun _ _ => trivial) HB1.out.row HB1.out.below (HB1.out.size rfl) (by rw [List.length_map]; have := HQL.out; omega) ?_; intro v14 w14 hR hb hg _; have HB2' := Aside0.mk (HB1.out.add (q := (.slice AM M.length cM, (⟨b0, b1, b2, b3, M⟩ : Pl))) (K3.out.rowAt 0 rfl) HW1.out hR hb hg); clear hR hb hg))
   go_roundg f0
   case measure => omega
   case rel => exact ⟨j + 1, qs ++ [(.slice AM M.length cM, (⟨b0, b1, b2, b3, M⟩ : Pl))], by first | rfl | rw [hwj], by have := HJM.out; omega, ⟨by rw [List.map_append, HQS.out, List.take_add_one, HBJ.out]; rfl⟩, HB2'⟩
 ·have hb0 : decide ((j : Int) < (m : Int)) = false := decide_eq_false (by omega)
  have hb0' : decide (j < m) = false := decide_eq_false hjm
  have hbl : bs'.length = m := by
   have h2 := congrArg List.length HPS.out
   rw [List.length_map] at h2
   have := HMN.out
   have := HBL.out
   omega
  have hqb : qs.map (·.2) = bs' := by rw [HQS.out, List.take_of_length_le (by omega)]
  have hql : qs.length = m := by have h1 := congrArg List.length hqb; rw [List.length_map] at h1; omega
  obtain ⟨gb, cN, hv14, hcN, hbds⟩ := HBK.out.form (by have := HMN.out; omega)
  rw [hql] at hv14 hcN
  replace K := Aside0.mk (K.out.call (K.out.size rfl) HBK.out.below)
  have HBA := Aside0.mk (HBD0.out.below HBK.out.below)
  have HBB := Aside0.mk hbds
  have HQB := Aside0.mk (And.intro hqb (And.intro hql hcN))
  have K4 := Aside0.mk (Hold.nil W1)
  subst hv14
  clear hbl hqb hql hcN hbds HBK HQS hj hjm HBD0 HNS HCU HBL HNL
  go_upto_region 32 with (first
   | ((with_reducible refine gate_dst (N := 130) rfl ?_); refine load_mid_ev (i := 0) (cs := #[.int .i64 x0, .int .i64 y0, .int .i64 x1, .int .i64 y1]) rfl 23 (.tmp 129) rfl rfl ((K.out.call (K.out.size rfl) K4.out.below).get 2 rfl) (fun j v hj => by rcases j with _ | _ | _ | _ | j <;> first | exact hj | (simp at hj)) Try.underlying23 rfl rfl ?_)
   | ((with_reducible refine gate_dst (N := 140) rfl ?_); refine load_mid_ev (i := 0) (cs := #[.int .i64 x0, .int .i64 y0, .int .i64 x1, .int .i64 y1]) rfl 23 (.tmp 139) rfl rfl ((K.out.call (K.out.size rfl) K4.out.below).get 2 rfl) (fun j v hj => by rcases j with _ | _ | _ | _ | j <;> first | exact hj | (simp at hj)) Try.underlying23 rfl rfl ?_)
   | (go_at_call 16; have HP := pyramid_Synthesize.good km kr n res kk mg ar x0 y0 x1 y1 R0 R1 R2 R3 ps u g m m _ (HBA.out.below K4.out.below) ⟨HMN.out.2.1.symm, HMN.out.1, Nat.le_refl _⟩ HRV.out HN.out HRS.out HAR.out HAL.out HM.out HMG.out (fun j p hj hp => HBO.out j p.2 hj (by rw [← HPS.out, List.getElem?_map, hp]; rfl)) (by rw [HPS.out]; exact HU0.out) (by rw [HPS.out]; exact HUS.out); rw [HUN.out] at HP; (try dsimp only at HP); (with_reducible refine HP.mono ?_); clear HP; rintro _ wA ⟨vA, rfl, hS⟩; obtain ⟨AA, aA, eA⟩ := Kd.R_slice (hS.rowAt 0 rfl); (try dsimp only at eA); subst eA; replace K4 := Aside0.mk (K4.out.join (below_size K4.out.below) hS); clear hS)
   | (go_at_call 16; have HP := pyramid_Synthesize.good km kr n res kk mg ar x0 y0 x1 y1 R0 R1 R2 R3 qs v gb m cN _ (HBB.out.below K4.out.below) ⟨HQB.out.2.1.symm, HMN.out.1, HQB.out.2.2⟩ HRV.out HN.out HRS.out HAR.out HAL.out HM.out HMG.out (fun j p hj hp => HVO.out j p.2 hj (by rw [← HQB.out.1, List.getElem?_map, hp]; rfl)) (by rw [HQB.out.1]; exact HV0.out) (by rw [HQB.out.1]; exact HVS.out); rw [HVN.out] at HP; (try dsimp only at HP); (with_reducible refine HP.mono ?_); clear HP; rintro _ wB ⟨vB, rfl, hS⟩; obtain ⟨AB, aB, eB⟩ := Kd.R_slice (hS.rowAt 0 rfl); (try dsimp only at eB); subst eB; replace K4 := Aside0.mk (K4.out.join (below_size K4.out.below) hS); clear hS)
   | ((with_reducible refine gate_dst (N := 22) rfl ?_); refine bT (N := 22) (#[.int .i64 0, .int .i64 0, .int .i64 0, .int .i64 0, .slice none 0 0]) 26 ?_; intro g22 hg W22 hbox hb; replace K4 := Aside0.mk (K4.out.box (below_size K4.out.below) hg hbox hb trivial); clear hg hbox hb)
   | ((with_reducible refine gate_store (t := 26) (p := 22) (v := .tmp 135) rfl ?_); refine store_ev rfl rfl 26 (.tmp 22) (.tmp 135) rfl rfl rfl (K4.out.get 0 rfl) rfl rfl (by first | (kernel_rfl) | (simp [Value.oneCell'])) ?_; intro W22s hs; replace K4 := Aside0.mk (K4.out.stored 0 rfl hs); clear hs)
   | ((with_reducible refine gate_dst (N := 23) rfl ?_); refine bT (N := 23) (#[.int .i64 0, .int .i64 0, .int .i64 0, .int .i64 0, .slice none 0 0]) 26 ?_; intro g23 hg W23 hbox hb; replace K4 := Aside0.mk (K4.out.box (below_size K4.out.below) hg hbox hb trivial); clear hg hbox hb)
   | ((with_reducible refine gate_store (t := 26) (p := 23) (v := .tmp 145) rfl ?_); refine store_ev rfl rfl 26 (.tmp 23) (.tmp 145) rfl rfl rfl (K4.out.get 0 rfl) rfl rfl (by first | (kernel_rfl) | (simp [Value.oneCell'])) ?_; intro W23s hs; replace K4 := Aside0.mk (K4.out.stored 0 rfl hs); clear hs))
  clear hb0 hb0'
  go_cut [25] (fun v25 wc => ∃ g25 : Nat, v25 = .pointer (some ⟨g25, 0, none⟩) ∧ Aside0 (Hold W1.heap.size W1 wc [(g25, 23, #[.int .i64 wn.1, .int .i64 wn.2.1, .int .i64 wn.2.2.1, .int .i64 wn.2.2.2]), (g23, 26, #[.int .i64 R0, .int .i64 R1, .int .i64 R2, .int .i64 R3, .slice AB Gb.length aB]), (g22, 26, #[.int .i64 R0, .int .i64 R1, .int .i64 R2, .int .i64 R3, .slice AA Ga.length aA])] ([(.slice AB Gb.length aB, Gb), (.slice AA Ga.length aA, Ga)])))
  case first =>
   replace K4 := Aside0.mk (K4.out.drew)
   refine start_ (n := 9) (S := fun w' => w'.heap[g7]? = some (.cells #[.int .i64 z0, .int .i64 z1, .int .i64 z2, .int .i64 z3] 23 (0, 0)) ∧ w'.heap[g4]? = some (.cells #[.int .i64 x0, .int .i64 y0, .int .i64 x1, .int .i64 y1, .slice A D.length c] 26 (0, 0))) (ds := [8]) #[false, false, false, false, false, false, false, false, false] (by kernel_rfl) rfl rfl ⟨blk_below (K.out.get 0 rfl) K4.out.below, blk_below (K.out.get 2 rfl) K4.out.below⟩ (fun hHeld0 => ?_)
   generalize hw2 : W23s.drew = w2 at *
   clear hw2
   have hHeld := Aside0.mk hHeld0
   clear hHeld0
   refine take_ (i := 0) (N := some 153) (v := .agg #[.int .i64 z0, .int .i64 z1, .int .i64 z2, .int .i64 z3]) (a' := ?_) #[true, false, false, false, false, false, false, false, false] rfl rfl (by kernel_rfl) (fun _ _ _ h => h) (load_all_yields (by rfl) 23 (.tmp 7) rfl rfl (fun _ h => h.1) Try.underlying23 rfl rfl) hHeld.out ?_ ?_
   rotate_left
   ·simp only [Act.put, List.setIfInBounds_toArray, List.set_cons_zero, List.set_cons_succ, i64_w, i32_w]
    rfl
   refine pT (i := 1) (N := some 154) ?_
   refine take_ (i := 2) (N := some 155) (v := .agg #[.int .i64 x0, .int .i64 y0, .int .i64 x1, .int .i64 y1]) (a' := ?_) #[true, true, true, false, false, false, false, false, false] rfl rfl (by kernel_rfl) (fun _ _ _ h => h) (load_mid_yields (i := 0) (cs := #[.int .i64 x0, .int .i64 y0, .int .i64 x1, .int .i64 y1]) (by rfl) 23 (.tmp 154) rfl rfl (fun _ h => h.2) (fun j v hj => by rcases j with _ | _ | _ | _ | j <;> first | exact hj | (simp at hj)) Try.underlying23 rfl rfl) hHeld.out ?_ ?_
   rotate_left
   ·simp only [Act.put, List.setIfInBounds_toArray, List.set_cons_zero, List.set_cons_succ, i64_w, i32_w]
    rfl
   refine pT (i := 3) (N := some 156) ?_
   refine pT (i := 4) (N := some 157) ?_
   refine two_ (i := 5) (j := 7) (Ni := some 158) (Nj := some 25) #[true, true, true, true, true, true, false, false, false] #[true, true, true, true, true, false, false, true, false] rfl rfl rfl rfl (by kernel_rfl) (by decide) (by decide) (fun KC hK => ?_) (fun KC hK => ?_)
   ·skip
    refine goes_ Try.func17 (by kernel_rfl) rfl #[.agg #[.int .i64 x0, .int .i64 y0, .int .i64 x1, .int .i64 y1], .int .i64 (n : Int), .int .i64 (res : Int)] (by rfl) rfl rfl (by simp only [List.map_toArray, List.map_cons, List.map_nil]; rfl) ?_
    refine (waveletref06_Resolution.calls k6 x0 y0 x1 y1 (n : Int) (res : Int) R0 R1 R2 R3 _ H06.out).mono ?_
    rintro _ w5_ ⟨rfl, bb⟩
    refine ⟨_, rfl, ?_⟩
    replace K4 := Aside0.mk (K4.out.call (below_size K4.out.below) bb)
    clear bb hHeld
    refine hK.out _ _ ⟨blk_below (K.out.get 0 rfl) K4.out.below, blk_below (K.out.get 2 rfl) K4.out.below⟩ (fun hHeld0 => ?_)
    have hHeld := Aside0.mk hHeld0
    clear hHeld0
    clear hK KC
    refine nT ?_
    refine two_ (i := 6) (j := 7) (Ni := some 159) (Nj := some 25) #[true, true, true, true, true, true, true, false, false] #[true, true, true, true, true, true, false, true, false] rfl rfl rfl rfl (by kernel_rfl) (by decide) (by decide) (fun KC hK => ?_) (fun KC hK => ?_)
    ·skip
     refine goes_ Try.func12 (by kernel_rfl) rfl #[.agg #[.int .i64 z0, .int .i64 z1, .int .i64 z2, .int .i64 z3], .agg #[.int .i64 R0, .int .i64 R1, .int .i64 R2, .int .i64 R3]] (by rfl) rfl rfl (by simp only [List.map_toArray, List.map_cons, List.map_nil]; rfl) ?_
     refine (waveletref01_Intersect.calls z0 z1 z2 z3 R0 R1 R2 R3 wn.1 wn.2.1 wn.2.2.1 wn.2.2.2 _ HWI.out).mono ?_
     rintro _ w6_ ⟨rfl, bb⟩
     refine ⟨_, rfl, ?_⟩
     replace K4 := Aside0.mk (K4.out.call (below_size K4.out.below) bb)
     clear bb hHeld
     refine hK.out _ _ ⟨blk_below (K.out.get 0 rfl) K4.out.below, blk_below (K.out.get 2 rfl) K4.out.below⟩ (fun hHeld0 => ?_)
     have hHeld := Aside0.mk hHeld0
     clear hHeld0
     clear hK KC
     refine nT ?_
     refine one_ (i := 7) (N := some 25) #[true, true, true, true, true, true, true, true, false] rfl rfl (by kernel_rfl) (by decide) (fun KC hK => ?_)
     refine box_step ?hg (N := 25) ?hd (cs := #[.int .i64 0, .int .i64 0, .int .i64 0, .int .i64 0]) (t := 23) ?hr ?_
     case hd => rfl
     case hg => rfl
     case hr => first | (go_simp; done) | (go_simp; rfl)
     intro g25 hg w7_ hbox hb
     replace K4 := Aside0.mk (K4.out.box (below_size K4.out.below) hg hbox hb trivial)
     clear hg hbox hb hHeld
     refine hK.out _ _ ⟨blk_below (K.out.get 0 rfl) K4.out.below, blk_below (K.out.get 2 rfl) K4.out.below⟩ (fun hHeld0 => ?_)
     have hHeld := Aside0.mk hHeld0
     clear hHeld0
     clear hK KC
     refine nT ?_
     refine last_ (i := 8) (N := none) #[true, true, true, true, true, true, true, true, true] rfl rfl (by kernel_rfl) (by decide) (fun KC hK => ?_)
     refine store_step (cs := #[.int .i64 wn.1, .int .i64 wn.2.1, .int .i64 wn.2.2.1, .int .i64 wn.2.2.2]) (by rfl) rfl 23 (.tmp 25) (.tmp 159) rfl rfl (by kernel_rfl) (K4.out.get 0 rfl) rfl rfl (by first | (kernel_rfl) | (simp [Value.oneCell'])) ?_
     intro WS hs
     refine hK.out _ _ ?_
     replace K4 := Aside0.mk (K4.out.stored 0 rfl hs)
     clear hK KC hs hHeld
     refine done_ (by kernel_rfl) ?_
     go_wp2
     go_meet
     case rel => exact ⟨_, rfl, ⟨K4.out⟩⟩
    ·skip
     refine box_step ?hg (N := 25) ?hd (cs := #[.int .i64 0, .int .i64 0, .int .i64 0, .int .i64 0]) (t := 23) ?hr ?_
     case hd => rfl
     case hg => rfl
     case hr => first | (go_simp; done) | (go_simp; rfl)
     intro g25 hg w7_ hbox hb
     replace K4 := Aside0.mk (K4.out.box (below_size K4.out.below) hg hbox hb trivial)
     clear hg hbox hb hHeld
     refine hK.out _ _ ⟨blk_below (K.out.get 0 rfl) K4.out.below, blk_below (K.out.get 2 rfl) K4.out.below⟩ (fun hHeld0 => ?_)
     have hHeld := Aside0.mk hHeld0
     clear hHeld0
     clear hK KC
     refine nT ?_
     refine one_ (i := 6) (N := some 159) #[true, true, true, true, true, true, true, true, false] rfl rfl (by kernel_rfl) (by decide) (fun KC hK => ?_)
     refine goes_ Try.func12 (by kernel_rfl) rfl #[.agg #[.int .i64 z0, .int .i64 z1, .int .i64 z2, .int .i64 z3], .agg #[.int .i64 R0, .int .i64 R1, .int .i64 R2, .int .i64 R3]] (by rfl) rfl rfl (by simp only [List.map_toArray, List.map_cons, List.map_nil]; rfl) ?_
     refine (waveletref01_Intersect.calls z0 z1 z2 z3 R0 R1 R2 R3 wn.1 wn.2.1 wn.2.2.1 wn.2.2.2 _ HWI.out).mono ?_
     rintro _ w6_ ⟨rfl, bb⟩
     refine ⟨_, rfl, ?_⟩
     replace K4 := Aside0.mk (K4.out.call (below_size K4.out.below) bb)
     clear bb hHeld
     refine hK.out _ _ ⟨blk_below (K.out.get 0 rfl) K4.out.below, blk_below (K.out.get 2 rfl) K4.out.below⟩ (fun hHeld0 => ?_)
     have hHeld := Aside0.mk hHeld0
     clear hHeld0
     clear hK KC
     refine nT ?_
     refine last_ (i := 8) (N := none) #[true, true, true, true, true, true, true, true, true] rfl rfl (by kernel_rfl) (by decide) (fun KC hK => ?_)
     refine store_step (cs := #[.int .i64 wn.1, .int .i64 wn.2.1, .int .i64 wn.2.2.1, .int .i64 wn.2.2.2]) (by rfl) rfl 23 (.tmp 25) (.tmp 159) rfl rfl (by kernel_rfl) (K4.out.get 0 rfl) rfl rfl (by first | (kernel_rfl) | (simp [Value.oneCell'])) ?_
     intro WS hs
     refine hK.out _ _ ?_
     replace K4 := Aside0.mk (K4.out.stored 0 rfl hs)
     clear hK KC hs hHeld
     refine done_ (by kernel_rfl) ?_
     go_wp2
     go_meet
     case rel => exact ⟨_, rfl, ⟨K4.out⟩⟩
   ·skip
    refine box_step ?hg (N := 25) ?hd (cs := #[.int .i64 0, .int .i64 0, .int .i64 0, .int .i64 0]) (t := 23) ?hr ?_
    case hd => rfl
    case hg => rfl
    case hr => first | (go_simp; done) | (go_simp; rfl)
    intro g25 hg w7_ hbox hb
    replace K4 := Aside0.mk (K4.out.box (below_size K4.out.below) hg hbox hb trivial)
    clear hg hbox hb hHeld
    refine hK.out _ _ ⟨blk_below (K.out.get 0 rfl) K4.out.below, blk_below (K.out.get 2 rfl) K4.out.below⟩ (fun hHeld0 => ?_)
    have hHeld := Aside0.mk hHeld0
    clear hHeld0
    clear hK KC
    refine nT ?_
    refine one_ (i := 5) (N := some 158) #[true, true, true, true, true, true, false, true, false] rfl rfl (by kernel_rfl) (by decide) (fun KC hK => ?_)
    refine goes_ Try.func17 (by kernel_rfl) rfl #[.agg #[.int .i64 x0, .int .i64 y0, .int .i64 x1, .int .i64 y1], .int .i64 (n : Int), .int .i64 (res : Int)] (by rfl) rfl rfl (by simp only [List.map_toArray, List.map_cons, List.map_nil]; rfl) ?_
    refine (waveletref06_Resolution.calls k6 x0 y0 x1 y1 (n : Int) (res : Int) R0 R1 R2 R3 _ H06.out).mono ?_
    rintro _ w5_ ⟨rfl, bb⟩
    refine ⟨_, rfl, ?_⟩
    replace K4 := Aside0.mk (K4.out.call (below_size K4.out.below) bb)
    clear bb hHeld
    refine hK.out _ _ ⟨blk_below (K.out.get 0 rfl) K4.out.below, blk_below (K.out.get 2 rfl) K4.out.below⟩ (fun hHeld0 => ?_)
    have hHeld := Aside0.mk hHeld0
    clear hHeld0
    clear hK KC
    refine nT ?_
    refine one_ (i := 6) (N := some 159) #[true, true, true, true, true, true, true, true, false] rfl rfl (by kernel_rfl) (by decide) (fun KC hK => ?_)
    refine goes_ Try.func12 (by kernel_rfl) rfl #[.agg #[.int .i64 z0, .int .i64 z1, .int .i64 z2, .int .i64 z3], .agg #[.int .i64 R0, .int .i64 R1, .int .i64 R2, .int .i64 R3]] (by rfl) rfl rfl (by simp only [List.map_toArray, List.map_cons, List.map_nil]; rfl) ?_
    refine (waveletref01_Intersect.calls z0 z1 z2 z3 R0 R1 R2 R3 wn.1 wn.2.1 wn.2.2.1 wn.2.2.2 _ HWI.out).mono ?_
    rintro _ w6_ ⟨rfl, bb⟩
    refine ⟨_, rfl, ?_⟩
    replace K4 := Aside0.mk (K4.out.call (below_size K4.out.below) bb)
    clear bb hHeld
    refine hK.out _ _ ⟨blk_below (K.out.get 0 rfl) K4.out.below, blk_below (K.out.get 2 rfl) K4.out.below⟩ (fun hHeld0 => ?_)
    have hHeld := Aside0.mk hHeld0
    clear hHeld0
    clear hK KC
    refine nT ?_
    refine last_ (i := 8) (N := none) #[true, true, true, true, true, true, true, true, true] rfl rfl (by kernel_rfl) (by decide) (fun KC hK => ?_)
    refine store_step (cs := #[.int .i64 wn.1, .int .i64 wn.2.1, .int .i64 wn.2.2.1, .int .i64 wn.2.2.2]) (by rfl) rfl 23 (.tmp 25) (.tmp 159) rfl rfl (by kernel_rfl) (K4.out.get 0 rfl) rfl rfl (by first | (kernel_rfl) | (simp [Value.oneCell'])) ?_
    intro WS hs
    refine hK.out _ _ ?_
    replace K4 := Aside0.mk (K4.out.stored 0 rfl hs)
    clear hK KC hs hHeld
    refine done_ (by kernel_rfl) ?_
    go_wp2
    go_meet
    case rel => exact ⟨_, rfl, ⟨K4.out⟩⟩
  case rest =>
  obtain ⟨g25, rfl, K4⟩ := hcut
  have KS := Aside0.mk (And.intro (K.out.size rfl) K.out.below)
  rcases HEN.out with hem | ⟨hem, X, hca, hcb, hsa⟩
  ·have HEM := Aside0.mk hem
   clear hem HEN
   go_wp2_with (first
    | ((with_reducible refine gate_dst (N := 160) rfl ?_); refine load_ev rfl 23 (.tmp 25) rfl rfl (K4.out.get 0 rfl) Try.underlying23 rfl ?_)
    | (go_at_call 13; (with_reducible refine (waveletref01_Empty.calls wn.1 wn.2.1 wn.2.2.1 wn.2.2.2 true _ HEM.out).mono ?_); rintro _ w13 ⟨rfl, bb⟩; replace K4 := Aside0.mk (K4.out.call (below_size K4.out.below) bb); clear bb))
   go_ret
   exact ⟨rfl, KS.out.2.trans (K4.out.below.mono KS.out.1)⟩
  ·have HEM := Aside0.mk hem
   have HCA := Aside0.mk hca
   have HCB := Aside0.mk hcb
   have HSA := Aside0.mk hsa
   clear hem HEN hca hcb hsa
   go_wp2_with (first
    | ((with_reducible refine gate_dst (N := 160) rfl ?_); refine load_ev rfl 23 (.tmp 25) rfl rfl (K4.out.get 0 rfl) Try.underlying23 rfl ?_)
    | (go_at_call 13; (with_reducible refine (waveletref01_Empty.calls wn.1 wn.2.1 wn.2.2.1 wn.2.2.2 false _ HEM.out).mono ?_); rintro _ w13 ⟨rfl, bb⟩; replace K4 := Aside0.mk (K4.out.call (below_size K4.out.below) bb); clear bb)
    | ((with_reducible refine gate_dst (N := 163) rfl ?_); refine load_ev rfl 26 (.tmp 22) rfl rfl (K4.out.get 2 rfl) Try.underlying26 rfl ?_)
    | ((with_reducible refine gate_dst (N := 164) rfl ?_); refine load_ev rfl 23 (.tmp 25) rfl rfl (K4.out.get 0 rfl) Try.underlying23 rfl ?_)
    | (go_at_call 14; have HP := plane_Crop.to (K4.out.readAt 1 rfl).2.2 (K4.out.readAt 1 rfl).2.1 HCA.out; (with_reducible refine HP.mono ?_); clear HP; rintro _ w15 ⟨vX, rfl, hR, hb⟩; obtain ⟨AX, cX, rfl⟩ := Kd.R_slice hR; replace K4 := Aside0.mk (K4.out.add (below_size K4.out.below) hR hb); clear hR hb)
    | ((with_reducible refine gate_dst (N := 26) rfl ?_); refine bT (N := 26) (#[.int .i64 0, .int .i64 0, .int .i64 0, .int .i64 0, .slice none 0 0]) 26 ?_; intro g26 hg W26 hbox hb; replace K4 := Aside0.mk (K4.out.box (below_size K4.out.below) hg hbox hb trivial); clear hg hbox hb)
    | ((with_reducible refine gate_store (t := 26) (p := 26) (v := .tmp 166) rfl ?_); refine store_ev rfl rfl 26 (.tmp 26) (.tmp 166) rfl rfl rfl (K4.out.get 0 rfl) rfl rfl (by first | (kernel_rfl) | (simp [Value.oneCell'])) ?_; intro W26s hs; replace K4 := Aside0.mk (K4.out.stored 0 rfl hs); clear hs)
    | ((with_reducible refine gate_dst (N := 169) rfl ?_); refine load_ev rfl 26 (.tmp 23) rfl rfl (K4.out.get 2 rfl) Try.underlying26 rfl ?_)
    | ((with_reducible refine gate_dst (N := 170) rfl ?_); refine load_ev rfl 23 (.tmp 25) rfl rfl (K4.out.get 1 rfl) Try.underlying23 rfl ?_)
    | (go_at_call 14; have HP := plane_Crop.to (K4.out.readAt 1 rfl).2.2 (K4.out.readAt 1 rfl).2.1 HCB.out; (with_reducible refine HP.mono ?_); clear HP; rintro _ w16 ⟨vY, rfl, hR, hb⟩; obtain ⟨AY, cY, rfl⟩ := Kd.R_slice hR; replace K4 := Aside0.mk (K4.out.add (below_size K4.out.below) hR hb); clear hR hb)
    | ((with_reducible refine gate_dst (N := 27) rfl ?_); refine bT (N := 27) (#[.int .i64 0, .int .i64 0, .int .i64 0, .int .i64 0, .slice none 0 0]) 26 ?_; intro g27 hg W27 hbox hb; replace K4 := Aside0.mk (K4.out.box (below_size K4.out.below) hg hbox hb trivial); clear hg hbox hb)
    | ((with_reducible refine gate_store (t := 26) (p := 27) (v := .tmp 172) rfl ?_); refine store_ev rfl rfl 26 (.tmp 27) (.tmp 172) rfl rfl rfl (K4.out.get 0 rfl) rfl rfl (by first | (kernel_rfl) | (simp [Value.oneCell'])) ?_; intro W27s hs; replace K4 := Aside0.mk (K4.out.stored 0 rfl hs); clear hs)
    | ((with_reducible refine gate_dst (N := 181) rfl ?_); (try (refine gate_guard (by rfl) ?_; dsimp only)); refine load_ev rfl 26 (.tmp 26) rfl rfl (K4.out.get 1 rfl) Try.underlying26 rfl ?_)
    | ((with_reducible refine gate_dst (N := 183) rfl ?_); (try (refine gate_guard (by rfl) ?_; dsimp only)); refine load_ev rfl 26 (.tmp 27) rfl rfl ((K4.out.call (below_size K4.out.below) (below_alloc (Below.refl _ _) _)).get 0 rfl) Try.underlying26 rfl ?_)
    | ((try (refine gate_guard (by rfl) ?_; dsimp only)); go_at_call 18; have HP := same_two' (ks := ks) (K4.out.readAt 1 rfl).2.1 (K4.out.readAt 1 rfl).2.2 (K4.out.readAt 0 rfl).2.1 (K4.out.readAt 0 rfl).2.2 HSA.out; (with_reducible refine HP.mono ?_); clear HP; rintro _ w18 ⟨rfl, b⟩; have HBF := Aside0.mk (KS.out.2.trans ((K4.out.below.trans (b.mono (below_size K4.out.below))).mono KS.out.1)); clear b))
   go_ret
   exact ⟨rfl, HBF.out⟩
theorem mx_r {a b : Int} (h : a ≤ b) : mx a b = b := by unfold mx; split <;> omega
theorem mn_r {a b : Int} (h : b ≤ a) : mn a b = b := by unfold mn; split <;> omega
theorem mx_le (a b : Int) : a ≤ mx a b ∧ b ≤ mx a b ∧ (mx a b = a ∨ mx a b = b) := by unfold mx; split <;> omega
theorem mn_le (a b : Int) : mn a b ≤ a ∧ mn a b ≤ b ∧ (mn a b = a ∨ mn a b = b) := by unfold mn; split <;> omega
theorem rempty {a b c d : Int} (h : a < c) (h2 : b < d) : rect_Empty.f a b c d = some false := by
 unfold rect_Empty.f
 rw [if_neg (by omega), decide_eq_false (by omega)]
theorem rint_sub {s0 t0 s1 t1 : Int} {i : Rt} (h1 : s0 ≤ i.1) (h2 : i.1 < i.2.2.1) (h3 : i.2.2.1 ≤ s1) (h4 : t0 ≤ i.2.1) (h5 : i.2.1 < i.2.2.2) (h6 : i.2.2.2 ≤ t1) : rect_Intersect.f s0 t0 s1 t1 i.1 i.2.1 i.2.2.1 i.2.2.2 = some i := by
 unfold rect_Intersect.f
 rw [mx_r h1, mx_r h4, mn_r h3, mn_r h6, rempty h2 h5]
 rfl
/-- A rectangle amid another. -/
structure Amid (s0 t0 s1 t1 : Int) (i : Rt) : Prop where
 x0 : s0 ≤ i.1
 x : i.1 < i.2.2.1
 x1 : i.2.2.1 ≤ s1
 y0 : t0 ≤ i.2.1
 y : i.2.1 < i.2.2.2
 y1 : i.2.2.2 ≤ t1
theorem crop_ok {s0 t0 s1 t1 : Int} {S : List Int} {i : Rt} (hv : PV s0 t0 s1 t1 S) (hi : Amid s0 t0 s1 t1 i) :
  ∃ X, CropOk s0 t0 s1 t1 S i X ∧ PV i.1 i.2.1 i.2.2.1 i.2.2.2 X ∧ ∀ a b : Nat, a < (i.2.2.2 - i.2.1).toNat → b < (i.2.2.1 - i.1).toNat → cell (i.2.2.1 - i.1).toNat X a b = cell (s1 - s0).toNat S (i.2.1 + a - t0).toNat (i.1 + b - s0).toNat := by
 obtain ⟨h1, h2, h3, h4, h5, h6⟩ := hi
 obtain ⟨ws, hs, hw, hh, hS, hl⟩ := hv.nat
 obtain ⟨⟨p1, p2, p3⟩, ⟨q1, q2, q3⟩, _, _⟩ := id hv
 obtain ⟨wd, hwd⟩ := Int.eq_ofNat_of_zero_le (show 0 ≤ i.2.2.1 - i.1 by omega)
 obtain ⟨hd, hhd⟩ := Int.eq_ofNat_of_zero_le (show 0 ≤ i.2.2.2 - i.2.1 by omega)
 have hm : hd * wd ≤ 1048576 := Nat.le_trans (Nat.mul_le_mul (show hd ≤ hs by omega) (show wd ≤ ws by omega)) hl
 have hp : 0 < hd * wd := Nat.mul_pos (by omega) (by omega)
 obtain ⟨X, e1, e2, e3⟩ := partF_spec (wd := wd) (hd := hd) (ws := ws) (hs := hs) (x0 := i.1) (y0 := i.2.1) (s0 := s0) (t0 := t0) (r0 := i.1) (r1 := i.2.2.1) (u0 := i.2.1) (u1 := i.2.2.2) (S := S) (by omega) (by omega) (by omega) (by omega) hS 5000 i.2.1 (List.replicate (hd * wd) 0) (by omega) (by omega) (by omega) (by simp)
 have hVX : PV i.1 i.2.1 i.2.2.1 i.2.2.2 X := PV.of_nat ⟨by omega, by omega⟩ ⟨by omega, by omega⟩ (w := wd) (m := hd) (by omega) (by omega) e2 hm
 refine ⟨X, ⟨5000, hd * wd, hv, rv_of ⟨by omega, by omega, by omega⟩ ⟨by omega, by omega, by omega⟩, ?_, rempty h2 h5, ra_of ⟨by omega, by omega⟩ ⟨by omega, by omega⟩ (by omega) (by omega) hm, ⟨hp, hm, ?_⟩, ⟨⟨h1, by omega, h3⟩, h4, by omega, h6⟩, ?_⟩, hVX, fun a b ha hb => ?_⟩
 ·unfold rect_Contains.f
  rw [rempty h2 h5, Option.bind_some, if_neg (by decide), rint_sub h1 h2 h3 h4 h5 h6, Option.bind_some]
  simp
 ·rw [hwd, hhd, ← Int.natCast_mul, Nat.mul_comm]
 ·rw [show i.2.2.1 - i.1 = (wd : Int) by omega, show s1 - s0 = (ws : Int) by omega]
  exact e1
 ·rw [show (i.2.2.1 - i.1).toNat = wd by omega] at hb ⊢
  rw [show (s1 - s0).toNat = ws by omega, e3 a b (by omega) hb, if_pos (by omega)]
theorem crop_pair {s0 t0 s1 t1 : Int} {S S' : List Int} {i : Rt} (hv : PV s0 t0 s1 t1 S) (hv' : PV s0 t0 s1 t1 S') (hi : Amid s0 t0 s1 t1 i) (ha : Alk s0 t0 s1 t1 S S' i) : ∃ X, CropOk s0 t0 s1 t1 S i X ∧ CropOk s0 t0 s1 t1 S' i X ∧ X.length ≤ 1048576 := by
 obtain ⟨X, c1, v1, e1⟩ := crop_ok hv hi
 obtain ⟨X', c2, v2, e2⟩ := crop_ok hv' hi
 obtain ⟨h1, h2, h3, h4, h5, h6⟩ := hi
 obtain ⟨⟨p1, p2, p3⟩, ⟨q1, q2, q3⟩, _, _⟩ := id hv
 have l1 := v1.2.2.2
 have l2 := v2.2.2.2
 have lm := v1.2.2.1
 obtain ⟨wd, hwd⟩ := Int.eq_ofNat_of_zero_le (show 0 ≤ i.2.2.1 - i.1 by omega)
 obtain ⟨hd, hhd⟩ := Int.eq_ofNat_of_zero_le (show 0 ≤ i.2.2.2 - i.2.1 by omega)
 rw [hwd, hhd, ← Int.natCast_mul, Nat.mul_comm] at l1 l2 lm
 have : X' = X := by
  refine ext_cell (w := wd) (h := hd) (by omega) (by omega) fun a b haa hbb => ?_
  rw [show (i.2.2.1 - i.1).toNat = wd by omega, show (i.2.2.2 - i.2.1).toNat = hd by omega] at e1 e2
  rw [e1 a b haa hbb, e2 a b haa hbb]
  exact (ha (i.2.1 + a - t0).toNat (i.1 + b - s0).toNat (by omega) (by omega) (by omega) (by omega) (by omega) (by omega)).symm
 subst this
 exact ⟨X', c1, c2, by omega⟩
theorem new_of {x0 y0 x1 y1 : Int} {w m : Nat} (hx : 0 ≤ x0 ∧ x1 ≤ 4096) (hy : 0 ≤ y0 ∧ y1 ≤ 4096) (hw : x1 = x0 + (w : Int)) (hm : y1 = y0 + (m : Int)) (hl : m * w ≤ 1048576) : plane_New.f x0 y0 x1 y1 = some (x0, y0, x1, y1, List.replicate (m * w) 0, 0) := by
 unfold plane_New.f
 rw [rv_of (by omega) (by omega)]
 simp only [Option.bind_some, if_true]
 rw [ra_of hx hy hw hm hl, Option.bind_some, if_neg (by omega), Option.bind_some, if_pos (by omega), Int.toNat_natCast, if_pos (by omega)]
theorem wempty (a b c d : Int) : waveletref01_Empty.f a b c d = some (decide (c ≤ a) || decide (d ≤ b)) := by
 unfold waveletref01_Empty.f
 by_cases h : a ≥ c
 ·rw [if_pos h, decide_eq_true h]
  rfl
 ·rw [if_neg h, decide_eq_false h]
  rfl
theorem bandcut_ok {b : Pl} {β : Int} (hv : PV b.x0 b.y0 b.x1 b.y1 b.D) (hb : Bd β b.D) (h0 : 0 ≤ β) (nd : Rt) : ∃ M, BandCut b nd M ∧ PV b.x0 b.y0 b.x1 b.y1 M ∧ Bd β M ∧ Alk b.x0 b.y0 b.x1 b.y1 b.D M nd := by
 obtain ⟨w, m, hw, hm, hD, hl⟩ := hv.nat
 obtain ⟨⟨p1, p2, p3⟩, ⟨q1, q2, q3⟩, _, _⟩ := id hv
 have hnew := new_of (x0 := b.x0) (y0 := b.y0) (x1 := b.x1) (y1 := b.y1) (w := w) (m := m) ⟨p1, p3⟩ ⟨q1, q3⟩ hw hm hl
 have hVZ : PV b.x0 b.y0 b.x1 b.y1 (List.replicate (m * w) 0) := PV.of_nat ⟨p1, p3⟩ ⟨q1, q3⟩ hw hm (by simp) hl
 have ew : (b.x1 - b.x0).toNat = w := by omega
 have em : (b.y1 - b.y0).toNat = m := by omega
 have X0 := mx_le b.x0 nd.1
 have Y0 := mx_le b.y0 nd.2.1
 have X1 := mn_le b.x1 nd.2.2.1
 have Y1 := mn_le b.y1 nd.2.2.2
 by_cases hem : mn b.x1 nd.2.2.1 ≤ mx b.x0 nd.1 ∨ mn b.y1 nd.2.2.2 ≤ mx b.y0 nd.2.1
 ·refine ⟨List.replicate (m * w) 0, ⟨(0, 0, 0, 0), List.replicate (m * w) 0, ?_, hnew, .inl ⟨by rw [wempty]; rfl, rfl⟩⟩, hVZ, fun v hv => ?_, fun i j hi hj c1 c2 c3 c4 => ?_⟩
  ·unfold waveletref01_Intersect.f
   rw [wempty, Option.bind_some]
   rw [if_pos (by simpa using hem)]
  ·rw [(List.mem_replicate.mp hv).2]
   omega
  ·exfalso
   omega
 ·obtain ⟨i, hi⟩ : ∃ i : Rt, i = (mx b.x0 nd.1, mx b.y0 nd.2.1, mn b.x1 nd.2.2.1, mn b.y1 nd.2.2.2) := ⟨_, rfl⟩
  have i1 : i.1 = mx b.x0 nd.1 := by rw [hi]
  have i2 : i.2.1 = mx b.y0 nd.2.1 := by rw [hi]
  have i3 : i.2.2.1 = mn b.x1 nd.2.2.1 := by rw [hi]
  have i4 : i.2.2.2 = mn b.y1 nd.2.2.2 := by rw [hi]
  have hA : Amid b.x0 b.y0 b.x1 b.y1 i := ⟨by omega, by omega, by omega, by omega, by omega, by omega⟩
  obtain ⟨X, c1, v1, e1⟩ := crop_ok hv hA
  obtain ⟨wd, hd, hwd, hhd, hX, hlX⟩ := v1.nat
  obtain ⟨h1, h2, h3, h4, h5, h6⟩ := hA
  obtain ⟨Y, g1, g2, g3⟩ := partF_spec (wd := w) (hd := m) (ws := wd) (hs := hd) (x0 := b.x0) (y0 := b.y0) (s0 := i.1) (t0 := i.2.1) (r0 := i.1) (r1 := i.2.2.1) (u0 := i.2.1) (u1 := i.2.2.2) (S := X) (by omega) (by omega) (by omega) (by omega) hX 5000 i.2.1 (List.replicate (m * w) 0) (by omega) (by omega) (by omega) (by simp)
  have hcell : ∀ a c : Nat, a < m → c < w → cell w Y a c = if (i.2.1 ≤ b.y0 + a ∧ b.y0 + a < i.2.2.2) ∧ i.1 ≤ b.x0 + c ∧ b.x0 + c < i.2.2.1 then cell w b.D a c else 0 := by
   intro a c ha hc
   rw [g3 a c ha hc]
   by_cases hh : (i.2.1 ≤ b.y0 + a ∧ b.y0 + a < i.2.2.2) ∧ i.1 ≤ b.x0 + c ∧ b.x0 + c < i.2.2.1
   ·rw [if_pos hh, if_pos hh]
    have := e1 (b.y0 + a - i.2.1).toNat (b.x0 + c - i.1).toNat (by omega) (by omega)
    rw [show (i.2.2.1 - i.1).toNat = wd by omega, ew] at this
    rw [this, show (i.2.1 + ((b.y0 + a - i.2.1).toNat : Int) - b.y0).toNat = a by omega, show (i.1 + ((b.x0 + c - i.1).toNat : Int) - b.x0).toNat = c by omega]
   ·rw [if_neg hh, if_neg hh]
    unfold cell
    rw [rd_nat, List.getD_eq_getElem?_getD, List.getElem?_replicate, if_pos (in_rows ha hc)]
    rfl
  have hVY : PV b.x0 b.y0 b.x1 b.y1 Y := PV.of_nat ⟨p1, p3⟩ ⟨q1, q3⟩ hw hm g2 hl
  refine ⟨Y, ⟨i, List.replicate (m * w) 0, ?_, hnew, .inr ⟨?_, X, c1, 5000, hVZ, v1, rint_sub h1 h2 h3 h4 h5 h6, ?_, ⟨⟨h1, h2, h3⟩, h4, h5, h6⟩, ?_⟩⟩, hVY, bd_cell g2 fun a c ha hc => ?_, fun a c ha hc k1 k2 k3 k4 => ?_⟩
  ·unfold waveletref01_Intersect.f
   rw [wempty, Option.bind_some, if_neg (by simpa using hem), hi]
  ·rw [wempty, i1, i2, i3, i4]
   congr 1
   simpa using hem
  ·rw [List.length_replicate]
   exact Nat.mul_pos (by omega) (by omega)
  ·rw [show b.x1 - b.x0 = (w : Int) by omega, show i.2.2.1 - i.1 = (wd : Int) by omega]
   exact g1
  ·rw [hcell a c ha hc]
   split
   ·exact hb.at_ h0 _
   ·omega
  ·rw [ew] at hc ⊢
   rw [em] at ha
   rw [hcell a c ha hc, if_pos (by omega)]
theorem valid01 (x0 y0 x1 y1 : Int) : ∃ r, waveletref01_Valid.f x0 y0 x1 y1 = some r ∧ (r = true → (0 ≤ x0 ∧ x0 ≤ x1 ∧ x1 ≤ 4096) ∧ (0 ≤ y0 ∧ y0 ≤ y1 ∧ y1 ≤ 4096)) := by
 unfold waveletref01_Valid.f
 split
 ·split
  ·split
   ·split
    ·split
     ·exact ⟨_, rfl, fun h => by have := of_decide_eq_true h; omega⟩
     ·exact ⟨_, rfl, fun h => by cases h⟩
    ·exact ⟨_, rfl, fun h => by cases h⟩
   ·exact ⟨_, rfl, fun h => by cases h⟩
  ·exact ⟨_, rfl, fun h => by cases h⟩
 ·exact ⟨_, rfl, fun h => by cases h⟩
theorem valid02 (x0 y0 x1 y1 : Int) (D : List Int) : ∃ r, waveletref02_Valid.f x0 y0 x1 y1 D = some r ∧ (r = true → PV x0 y0 x1 y1 D) := by
 obtain ⟨r, h, hr⟩ := valid01 x0 y0 x1 y1
 unfold waveletref02_Valid.f waveletref01_Area.f
 rw [h]
 simp only [Option.bind_some]
 cases r with
 | false =>
  simp only [Bool.false_eq_true, if_false, Option.bind_some]
  exact ⟨_, rfl, fun h => by cases h⟩
 | true =>
  obtain ⟨⟨a1, a2, a3⟩, ⟨b1, b2, b3⟩⟩ := hr rfl
  simp only [if_true, Option.bind_some]
  obtain ⟨w, hw⟩ := Int.eq_ofNat_of_zero_le (show 0 ≤ x1 - x0 by omega)
  obtain ⟨m, hm⟩ := Int.eq_ofNat_of_zero_le (show 0 ≤ y1 - y0 by omega)
  have hwm : m * w ≤ 4096 * 4096 := Nat.mul_le_mul (by omega) (by omega)
  rw [show wrap64 (x1 - x0) = (w : Int) by rw [wid (by omega) (by omega)]; omega, show wrap64 (y1 - y0) = (m : Int) by rw [wid (by omega) (by omega)]; omega, ← Int.natCast_mul, Nat.mul_comm, wid (by omega) (by omega)]
  split
  ·refine ⟨_, rfl, fun h => ?_⟩
   have h := eq_of_beq h
   exact PV.of_nat ⟨a1, a3⟩ ⟨b1, b3⟩ (w := w) (m := m) (by omega) (by omega) (by omega) (by omega)
  ·exact ⟨_, rfl, fun h => by cases h⟩
theorem small_l0 (D : List Int) (hl : D.length ≤ 1000000) : ∀ (k i : Nat), i ≤ D.length → D.length < k + i → ∃ r, wavelettop_smallPlane.l0 k D (D.length : Int) (i : Int) = some r ∧ (r = true → ∀ j : Nat, i ≤ j → j < D.length → -65536 ≤ rd D (j : Int) ∧ rd D (j : Int) ≤ 65536)
 | 0, i, hi, hk => by omega
 | k + 1, i, hi, hk => by
  rw [wavelettop_smallPlane.l0.eq_2]
  by_cases c : i < D.length
  ·rw [if_pos (by omega), if_pos (by omega), if_pos (by omega)]
   by_cases c1 : rd D (i : Int) < -65536
   ·rw [if_pos c1]
    exact ⟨_, rfl, fun h => by cases h⟩
   ·rw [if_neg c1]
    by_cases c2 : rd D (i : Int) > 65536
    ·rw [if_pos c2]
     exact ⟨_, rfl, fun h => by cases h⟩
    ·rw [if_neg c2, show wrap64 ((i : Int) + 1) = ((i + 1 : Nat) : Int) from wid (by omega) (by omega)]
     obtain ⟨r, h1, h2⟩ := small_l0 D hl k (i + 1) (by omega) (by omega)
     refine ⟨r, h1, fun hr j hj hjl => ?_⟩
     by_cases e : j = i
     ·subst e
      omega
     ·exact h2 hr j (by omega) hjl
  ·rw [if_neg (by omega)]
   exact ⟨_, rfl, fun _ j hj hjl => by omega⟩
theorem small_total (x0 y0 x1 y1 : Int) (D : List Int) : ∃ k r, wavelettop_smallPlane.f k x0 y0 x1 y1 D = some r ∧ (r = true → PV x0 y0 x1 y1 D ∧ D.length ≤ 900 ∧ Bd 65536 D) := by
 obtain ⟨r, h, hr⟩ := valid02 x0 y0 x1 y1 D
 unfold wavelettop_smallPlane.f
 rw [h]
 simp only [Option.bind_some]
 cases r with
 | false =>
  refine ⟨1, false, ?_, fun h => by cases h⟩
  rw [if_neg (by decide), wavelettop_smallPlane.j0.eq_2, if_pos rfl]
 | true =>
  by_cases c : (D.length : Int) > 900
  ·refine ⟨1, false, ?_, fun h => by cases h⟩
   rw [if_pos rfl, decide_eq_true c, wavelettop_smallPlane.j0.eq_2, if_pos rfl]
  ·obtain ⟨q, h1, h2⟩ := small_l0 D (by omega) (D.length + 1) 0 (by omega) (by omega)
   refine ⟨D.length + 1 + 1, q, ?_, fun hq => ⟨hr rfl, by omega, Bd.of_rd fun i hi => h2 hq i (by omega) hi⟩⟩
   rw [if_pos rfl, decide_eq_false c, wavelettop_smallPlane.j0.eq_2, if_neg (by decide)]
   exact h1
theorem known_total (kk : Int) : ∃ r, wavelettop_knownKernel.f kk = some r ∧ (r = true → 1 ≤ kk ∧ kk ≤ 3) := by
 unfold wavelettop_knownKernel.f
 split
 ·exact ⟨_, rfl, fun h => by have := of_decide_eq_true h; omega⟩
 ·exact ⟨_, rfl, fun h => by cases h⟩
theorem same_l0 {D : List Int} (hl : D.length ≤ 2000000) : ∀ (k i : Nat), i ≤ D.length → D.length < k + i → waveletref02_SameInts.l0 k D D (i : Int) = some true
 | 0, i, hi, hk => by omega
 | k + 1, i, hi, hk => by
  rw [waveletref02_SameInts.l0.eq_2]
  by_cases q : i < D.length
  ·rw [if_pos (by omega), if_pos (by omega), if_pos (by omega), if_pos rfl, show wrap64 ((i : Int) + 1) = ((i + 1 : Nat) : Int) from wid (by omega) (by omega)]
   exact same_l0 hl k (i + 1) (by omega) (by omega)
  ·rw [if_neg (by omega)]
theorem same_ref {k : Nat} {x0 y0 x1 y1 : Int} {D : List Int} (hl : D.length ≤ 2000000) (hk : D.length < k) : waveletref02_Same.f k x0 y0 x1 y1 D x0 y0 x1 y1 D = some true := by
 unfold waveletref02_Same.f waveletref02_SameInts.f
 rw [if_pos (by simp), if_pos rfl]
 have := same_l0 hl k 0 (by omega) (by omega)
 rw [show ((0 : Nat) : Int) = 0 from rfl] at this
 rw [this]
 rfl
theorem sameAll_l0 {l : List S26} (hl : l.length ≤ 1000) (hD : ∀ s ∈ l, s.f1.length ≤ 2000000) : ∀ (k i : Nat), i ≤ l.length → l.length + 2000001 < k + i → waveletref02_SameAll.l0 k l l (i : Int) = some true
 | 0, i, hi, hk => by omega
 | k + 1, i, hi, hk => by
  rw [waveletref02_SameAll.l0.eq_2]
  by_cases q : i < l.length
  ·have hm : (rd_T26 l (i : Int)).f1.length ≤ 2000000 := by
    refine hD _ ?_
    unfold rd_T26
    rw [Int.toNat_natCast, List.getD_eq_getElem?_getD, List.getElem?_eq_getElem q]
    exact List.getElem_mem q
   rw [if_pos (by omega), if_pos (by omega), if_pos (by omega), same_ref hm (by omega), Option.bind_some, if_pos rfl, show wrap64 ((i : Int) + 1) = ((i + 1 : Nat) : Int) from wid (by omega) (by omega)]
   exact sameAll_l0 hl hD k (i + 1) (by omega) (by omega)
  ·rw [if_neg (by omega)]
theorem same_all {l : List S26} (hl : l.length ≤ 1000) (hD : ∀ s ∈ l, s.f1.length ≤ 2000000) : wavelettop_samePlanes.f 3000000 l l = some true := by
 unfold wavelettop_samePlanes.f waveletref02_SameAll.f
 have := sameAll_l0 hl hD 3000000 0 (by omega) (by omega)
 rw [show ((0 : Nat) : Int) = 0 from rfl] at this
 rw [if_pos rfl, this]
 rfl
set_option maxHeartbeats 8000000 in
set_option maxRecDepth 100000 in
theorem TopLocal.skip1 (n res kp : Nat) (kk qa qb zn x0 y0 x1 y1 z0 z1 z2 z3 : Int) (A : Option Addr) (c : Nat) (D : List Int) (w : World) (hr : Kd.C (Kd.int .i64) w A D.length D) (hc : D.length ≤ c) (hqa : IntKind.i64.wrap qa = qa ∧ Int.tmod qa 6 = (n : Int)) (hzn : wrap64 ((n : Int) + 1) = zn ∧ zn ≠ 0) (hqb : IntKind.i64.wrap qb = qb ∧ Int.tmod qb zn = (res : Int)) (hsm : wavelettop_smallPlane.f kp x0 y0 x1 y1 D = some false) :
  Calls Try.prog 3 #[.agg #[.int .i64 x0, .int .i64 y0, .int .i64 x1, .int .i64 y1, .slice A D.length c], .agg #[.int .u8 qa, .int .u8 qb], .int .i64 kk, .agg #[.int .i64 z0, .int .i64 z1, .int .i64 z2, .int .i64 z3]] w fun e w' => e = .returned (.bool true) ∧ Below w.heap.size w w' := by
 have HR := Aside0.mk hr
 have HC := Aside0.mk hc
 have HSM := Aside0.mk hsm
 obtain ⟨hqa1, hqa2⟩ := hqa
 obtain ⟨hqb1, hqb2⟩ := hqb
 obtain ⟨hzn1, hzn2⟩ := hzn
 have hzd : decide (zn = 0) = false := decide_eq_false hzn2
 have hze : (zn == 0) = false := beq_eq_false_iff_ne.mpr hzn2
 clear hr hc hsm
 have K00 := Aside0.mk (Hold.nil w)
 go_enter Try.func3, Try.ntmps3
 go_wp2_with (first
  | ((with_reducible refine gate_dst (N := 4) rfl ?_); refine bT (N := 4) (#[.int .i64 x0, .int .i64 y0, .int .i64 x1, .int .i64 y1, .slice A D.length c]) 26 ?_; intro g4 hg W4 hbox hb; have K1 := Aside0.mk (K00.out.box (Nat.le_refl _) hg hbox hb trivial); clear hg hbox hb K00)
  | ((with_reducible refine gate_dst (N := 5) rfl ?_); refine bT (N := 5) (#[.int .u8 qa, .int .u8 qb]) 27 ?_; intro g5 hg W5 hbox hb; have K2 := Aside0.mk (K1.out.box (below_size K1.out.below) hg hbox hb trivial); clear hg hbox hb K1)
  | ((with_reducible refine gate_dst (N := 7) rfl ?_); refine bT (N := 7) (#[.int .i64 z0, .int .i64 z1, .int .i64 z2, .int .i64 z3]) 23 ?_; intro g7 hg W7 hbox hb; have K := Aside0.mk (K2.out.box (below_size K2.out.below) hg hbox hb trivial); clear hg hbox hb K2; have c50 : W7.cell? ⟨g5, 0, none⟩ = some (.int .u8 qa) := K.out.cell 1 rfl 0 rfl; have c51 : W7.cell? ⟨g5, 1, none⟩ = some (.int .u8 qb) := K.out.cell 1 rfl 1 rfl)
  | ((with_reducible refine gate_dst (N := 38) rfl ?_); refine load_ev rfl 26 (.tmp 4) rfl rfl (K.out.get 2 rfl) Try.underlying26 rfl ?_)
  | (go_at_call 6; (with_reducible refine (wavelettop_smallPlane.calls kp x0 y0 x1 y1 A c D false _ (Kd.C_below HR.out K.out.below) HC.out HSM.out).mono ?_); rintro _ w6 ⟨rfl, b⟩; clear c50 c51; replace K := Aside0.mk (K.out.call (below_size K.out.below) b); clear b))
 go_ret
 exact ⟨rfl, K.out.below⟩
set_option maxHeartbeats 8000000 in
set_option maxRecDepth 100000 in
theorem TopLocal.skip2 (n res kp : Nat) (kk qa qb zn x0 y0 x1 y1 z0 z1 z2 z3 : Int) (A : Option Addr) (c : Nat) (D : List Int) (w : World) (hr : Kd.C (Kd.int .i64) w A D.length D) (hc : D.length ≤ c) (hqa : IntKind.i64.wrap qa = qa ∧ Int.tmod qa 6 = (n : Int)) (hzn : wrap64 ((n : Int) + 1) = zn ∧ zn ≠ 0) (hqb : IntKind.i64.wrap qb = qb ∧ Int.tmod qb zn = (res : Int)) (hsm : wavelettop_smallPlane.f kp x0 y0 x1 y1 D = some true) (hkn : wavelettop_knownKernel.f kk = some false) :
  Calls Try.prog 3 #[.agg #[.int .i64 x0, .int .i64 y0, .int .i64 x1, .int .i64 y1, .slice A D.length c], .agg #[.int .u8 qa, .int .u8 qb], .int .i64 kk, .agg #[.int .i64 z0, .int .i64 z1, .int .i64 z2, .int .i64 z3]] w fun e w' => e = .returned (.bool true) ∧ Below w.heap.size w w' := by
 have HR := Aside0.mk hr
 have HC := Aside0.mk hc
 have HSM := Aside0.mk hsm
 have HKN := Aside0.mk hkn
 clear hkn
 obtain ⟨hqa1, hqa2⟩ := hqa
 obtain ⟨hqb1, hqb2⟩ := hqb
 obtain ⟨hzn1, hzn2⟩ := hzn
 have hzd : decide (zn = 0) = false := decide_eq_false hzn2
 have hze : (zn == 0) = false := beq_eq_false_iff_ne.mpr hzn2
 clear hr hc hsm
 have K00 := Aside0.mk (Hold.nil w)
 go_enter Try.func3, Try.ntmps3
 go_wp2_with (first
  | ((with_reducible refine gate_dst (N := 4) rfl ?_); refine bT (N := 4) (#[.int .i64 x0, .int .i64 y0, .int .i64 x1, .int .i64 y1, .slice A D.length c]) 26 ?_; intro g4 hg W4 hbox hb; have K1 := Aside0.mk (K00.out.box (Nat.le_refl _) hg hbox hb trivial); clear hg hbox hb K00)
  | ((with_reducible refine gate_dst (N := 5) rfl ?_); refine bT (N := 5) (#[.int .u8 qa, .int .u8 qb]) 27 ?_; intro g5 hg W5 hbox hb; have K2 := Aside0.mk (K1.out.box (below_size K1.out.below) hg hbox hb trivial); clear hg hbox hb K1)
  | ((with_reducible refine gate_dst (N := 7) rfl ?_); refine bT (N := 7) (#[.int .i64 z0, .int .i64 z1, .int .i64 z2, .int .i64 z3]) 23 ?_; intro g7 hg W7 hbox hb; have K := Aside0.mk (K2.out.box (below_size K2.out.below) hg hbox hb trivial); clear hg hbox hb K2; have c50 : W7.cell? ⟨g5, 0, none⟩ = some (.int .u8 qa) := K.out.cell 1 rfl 0 rfl; have c51 : W7.cell? ⟨g5, 1, none⟩ = some (.int .u8 qb) := K.out.cell 1 rfl 1 rfl)
  | ((with_reducible refine gate_dst (N := 38) rfl ?_); refine load_ev rfl 26 (.tmp 4) rfl rfl (K.out.get 2 rfl) Try.underlying26 rfl ?_)
  | (go_at_call 6; (with_reducible refine (wavelettop_smallPlane.calls kp x0 y0 x1 y1 A c D true _ (Kd.C_below HR.out K.out.below) HC.out HSM.out).mono ?_); rintro _ w6 ⟨rfl, b⟩; clear c50 c51; replace K := Aside0.mk (K.out.call (below_size K.out.below) b); clear b)
  | ((try (refine gate_guard (by rfl) ?_; dsimp only)); go_at_call 7; (with_reducible refine (wavelettop_knownKernel.calls kk false _ HKN.out).mono ?_); rintro _ w7 ⟨rfl, b⟩; replace K := Aside0.mk (K.out.call (below_size K.out.below) b.below); clear b))
 go_ret
 exact ⟨rfl, K.out.below⟩
set_option maxHeartbeats 8000000 in
set_option maxRecDepth 100000 in
theorem TopLocal.skip3 (n res kp : Nat) (kk qa qb zn x0 y0 x1 y1 z0 z1 z2 z3 : Int) (A : Option Addr) (c : Nat) (D : List Int) (w : World) (hr : Kd.C (Kd.int .i64) w A D.length D) (hc : D.length ≤ c) (hqa : IntKind.i64.wrap qa = qa ∧ Int.tmod qa 6 = (n : Int)) (hzn : wrap64 ((n : Int) + 1) = zn ∧ zn ≠ 0) (hqb : IntKind.i64.wrap qb = qb ∧ Int.tmod qb zn = (res : Int)) (hsm : wavelettop_smallPlane.f kp x0 y0 x1 y1 D = some true) (hkn : wavelettop_knownKernel.f kk = some true) (hwv : waveletref01_Valid.f z0 z1 z2 z3 = some false) :
  Calls Try.prog 3 #[.agg #[.int .i64 x0, .int .i64 y0, .int .i64 x1, .int .i64 y1, .slice A D.length c], .agg #[.int .u8 qa, .int .u8 qb], .int .i64 kk, .agg #[.int .i64 z0, .int .i64 z1, .int .i64 z2, .int .i64 z3]] w fun e w' => e = .returned (.bool true) ∧ Below w.heap.size w w' := by
 have HR := Aside0.mk hr
 have HC := Aside0.mk hc
 have HSM := Aside0.mk hsm
 have HKN := Aside0.mk hkn
 clear hkn
 have HWV := Aside0.mk hwv
 clear hwv
 obtain ⟨hqa1, hqa2⟩ := hqa
 obtain ⟨hqb1, hqb2⟩ := hqb
 obtain ⟨hzn1, hzn2⟩ := hzn
 have hzd : decide (zn = 0) = false := decide_eq_false hzn2
 have hze : (zn == 0) = false := beq_eq_false_iff_ne.mpr hzn2
 clear hr hc hsm
 have K00 := Aside0.mk (Hold.nil w)
 go_enter Try.func3, Try.ntmps3
 go_wp2_with (first
  | ((with_reducible refine gate_dst (N := 4) rfl ?_); refine bT (N := 4) (#[.int .i64 x0, .int .i64 y0, .int .i64 x1, .int .i64 y1, .slice A D.length c]) 26 ?_; intro g4 hg W4 hbox hb; have K1 := Aside0.mk (K00.out.box (Nat.le_refl _) hg hbox hb trivial); clear hg hbox hb K00)
  | ((with_reducible refine gate_dst (N := 5) rfl ?_); refine bT (N := 5) (#[.int .u8 qa, .int .u8 qb]) 27 ?_; intro g5 hg W5 hbox hb; have K2 := Aside0.mk (K1.out.box (below_size K1.out.below) hg hbox hb trivial); clear hg hbox hb K1)
  | ((with_reducible refine gate_dst (N := 7) rfl ?_); refine bT (N := 7) (#[.int .i64 z0, .int .i64 z1, .int .i64 z2, .int .i64 z3]) 23 ?_; intro g7 hg W7 hbox hb; have K := Aside0.mk (K2.out.box (below_size K2.out.below) hg hbox hb trivial); clear hg hbox hb K2; have c50 : W7.cell? ⟨g5, 0, none⟩ = some (.int .u8 qa) := K.out.cell 1 rfl 0 rfl; have c51 : W7.cell? ⟨g5, 1, none⟩ = some (.int .u8 qb) := K.out.cell 1 rfl 1 rfl)
  | ((with_reducible refine gate_dst (N := 38) rfl ?_); refine load_ev rfl 26 (.tmp 4) rfl rfl (K.out.get 2 rfl) Try.underlying26 rfl ?_)
  | (go_at_call 6; (with_reducible refine (wavelettop_smallPlane.calls kp x0 y0 x1 y1 A c D true _ (Kd.C_below HR.out K.out.below) HC.out HSM.out).mono ?_); rintro _ w6 ⟨rfl, b⟩; clear c50 c51; replace K := Aside0.mk (K.out.call (below_size K.out.below) b); clear b)
  | ((try (refine gate_guard (by rfl) ?_; dsimp only)); go_at_call 7; (with_reducible refine (wavelettop_knownKernel.calls kk true _ HKN.out).mono ?_); rintro _ w7 ⟨rfl, b⟩; replace K := Aside0.mk (K.out.call (below_size K.out.below) b.below); clear b)
  | ((with_reducible refine gate_dst (N := 47) rfl ?_); (try (refine gate_guard (by rfl) ?_; dsimp only)); refine load_ev rfl 23 (.tmp 7) rfl rfl (K.out.get 0 rfl) Try.underlying23 rfl ?_)
  | ((try (refine gate_guard (by rfl) ?_; dsimp only)); go_at_call 8; (with_reducible refine (waveletref01_Valid.calls z0 z1 z2 z3 false _ HWV.out).mono ?_); rintro _ w8 ⟨rfl, b⟩; replace K := Aside0.mk (K.out.call (below_size K.out.below) b); clear b))
 go_ret
 exact ⟨rfl, K.out.below⟩
/-- A rectangle stands in a list, or it has no points. -/
def Stands (ns : List Rt) (j : Nat) (r : Rt) : Prop := ∃ r', ns[j]? = some r' ∧ (r = r' ∨ r.2.2.1 ≤ 0)
theorem Alk.stands {x0 y0 x1 y1 : Int} {D D' : List Int} {r r' : Rt} (h : Alk x0 y0 x1 y1 D D' r') (hx : 0 ≤ x0) (hr : r = r' ∨ r.2.2.1 ≤ 0) : Alk x0 y0 x1 y1 D D' r := by
 rcases hr with rfl | hr
 ·exact h
 ·intro i j hi hj c1 c2 c3 c4
  omega
theorem margin3 {kk : Int} (h : 1 ≤ kk ∧ kk ≤ 3) : lift_Margin.f 1 kk = some (reach kk + 1) := by
 have : kk = 1 ∨ kk = 2 ∨ kk = 3 := by omega
 rcases this with rfl | rfl | rfl <;> decide
theorem TopLocal.core {kk : Int} (hkk : 1 ≤ kk ∧ kk ≤ 3) {n res kp k6 : Nat} (hn : n ≤ 5) (hres : res ≤ n) (qa qb zn x0 y0 x1 y1 z0 z1 z2 z3 : Int) (A : Option Addr) (c : Nat) (D : List Int) (w : World) (hr : Kd.C (Kd.int .i64) w A D.length D) (hc : D.length ≤ c) (hv : PV x0 y0 x1 y1 D) (hlen : D.length ≤ 900) (hb : Bd 65536 D)
  (hsm : wavelettop_smallPlane.f kp x0 y0 x1 y1 D = some true) (hkn : wavelettop_knownKernel.f kk = some true) (hwv : waveletref01_Valid.f z0 z1 z2 z3 = some true)
  (hqa : IntKind.i64.wrap qa = qa ∧ Int.tmod qa 6 = (n : Int)) (hzn : wrap64 ((n : Int) + 1) = zn ∧ zn ≠ 0) (hqb : IntKind.i64.wrap qb = qb ∧ Int.tmod qb zn = (res : Int))
  (ns : List Rt) (e win : Nat → Rt) (wn : Rt) (hnl : ns.length = 3 * n + 1)
  (hnd : ∀ W : World, Calls Try.prog 10 #[.agg #[.int .i64 x0, .int .i64 y0, .int .i64 x1, .int .i64 y1], .int .i64 (n : Int), .int .i64 (res : Int), .agg #[.int .i64 z0, .int .i64 z1, .int .i64 z2, .int .i64 z3], .int .i64 kk] W fun e' w' => ∃ g : Nat, e' = .returned (.slice (some ⟨g, 0, none⟩) (3 * n + 1) (3 * n + 1)) ∧ w'.heap[g]? = some (.cells (cellsR ns) 23 (0, 0)) ∧ Below W.heap.size W w')
  (hs0 : Stands ns 0 (win 0)) (hsq : ∀ q, q < res → Stands ns (3 * q + 1) (bHL (e (q + 1))) ∧ Stands ns (3 * q + 2) (bLH (e (q + 1))) ∧ Stands ns (3 * q + 3) (bHH (e (q + 1))) ∧ win q = bLL (e (q + 1)) ∧
   (∀ x y : Int, cd (n - (q + 1)) x0 ≤ x → x < cd (n - (q + 1)) x1 → cd (n - (q + 1)) y0 ≤ y → y < cd (n - (q + 1)) y1 → (win (q + 1)).1 - (reach kk + 1) ≤ x → x < (win (q + 1)).2.2.1 + (reach kk + 1) → (win (q + 1)).2.1 - (reach kk + 1) ≤ y → y < (win (q + 1)).2.2.2 + (reach kk + 1) → ((e (q + 1)).1 ≤ x ∧ x < (e (q + 1)).2.2.1) ∧ ((e (q + 1)).2.1 ≤ y ∧ y < (e (q + 1)).2.2.2)))
  (h06 : waveletref06_Resolution.f k6 x0 y0 x1 y1 (n : Int) (res : Int) = some (cd (n - res) x0, cd (n - res) y0, cd (n - res) x1, cd (n - res) y1)) (hwi : waveletref01_Intersect.f z0 z1 z2 z3 (cd (n - res) x0) (cd (n - res) y0) (cd (n - res) x1) (cd (n - res) y1) = some wn)
  (hfin : waveletref01_Empty.f wn.1 wn.2.1 wn.2.2.1 wn.2.2.2 = some true ∨ (waveletref01_Empty.f wn.1 wn.2.1 wn.2.2.1 wn.2.2.2 = some false ∧ win res = wn ∧ Amid (cd (n - res) x0) (cd (n - res) y0) (cd (n - res) x1) (cd (n - res) y1) wn)) :
  Calls Try.prog 3 #[.agg #[.int .i64 x0, .int .i64 y0, .int .i64 x1, .int .i64 y1, .slice A D.length c], .agg #[.int .u8 qa, .int .u8 qb], .int .i64 kk, .agg #[.int .i64 z0, .int .i64 z1, .int .i64 z2, .int .i64 z3]] w fun e w' => e = .returned (.bool true) ∧ Below w.heap.size w w' := by
 obtain ⟨bs, u0, i1, i2, i3, i4, i5, i6, i7⟩ := pyr_ok3 hkk hn hv (hb.mono (by decide))
 have hbl := i1.len
 obtain ⟨⟨p1, p2, p3⟩, ⟨q1, q2, q3⟩, _, _⟩ := id hv
 have hx : 0 ≤ x0 ∧ x0 ≤ x1 ∧ x1 ≤ 4096 := ⟨p1, p2, p3⟩
 have hy : 0 ≤ y0 ∧ y0 ≤ y1 ∧ y1 ≤ 4096 := ⟨q1, q2, q3⟩
 -- what stands for each subband
 have hM : ∀ j : Nat, ∃ M : List Int, ∀ b nd, bs[j]? = some b → ns[j]? = some nd → BandCut b nd M ∧ PV b.x0 b.y0 b.x1 b.y1 M ∧ Bd 2500000000 M ∧ Alk b.x0 b.y0 b.x1 b.y1 b.D M nd := by
  intro j
  by_cases hj : j < 3 * n + 1
  ·obtain ⟨b, hbj⟩ : ∃ b, bs[j]? = some b := ⟨_, List.getElem?_eq_getElem (show j < bs.length by omega)⟩
   obtain ⟨nd, hnj⟩ : ∃ nd, ns[j]? = some nd := ⟨_, List.getElem?_eq_getElem (show j < ns.length by omega)⟩
   have h5 := i5 j b hbj
   obtain ⟨M, m1, m2, m3, m4⟩ := bandcut_ok h5.1.1 h5.2.1 (by decide) nd
   refine ⟨M, fun b' nd' e1 e2 => ?_⟩
   rw [hbj] at e1
   rw [hnj] at e2
   obtain rfl := Option.some.inj e1
   obtain rfl := Option.some.inj e2
   exact ⟨m1, m2, m3, m4⟩
  ·exact ⟨[], fun b nd e1 e2 => by rw [List.getElem?_eq_none (by omega)] at e1; cases e1⟩
 obtain ⟨M, hM⟩ := Classical.axiomOfChoice hM
 obtain ⟨bs', hbs'⟩ : ∃ bs' : List Pl, bs' = bs.zipIdx.map fun p => ⟨p.1.x0, p.1.y0, p.1.x1, p.1.y1, M p.2⟩ := ⟨_, rfl⟩
 have hget : ∀ (j : Nat) (b : Pl), bs[j]? = some b → bs'[j]? = some ⟨b.x0, b.y0, b.x1, b.y1, M j⟩ := by
  intro j b h
  rw [hbs', List.getElem?_map, List.getElem?_zipIdx, h]
  simp
 have hbl' : bs'.length = bs.length := by rw [hbs']; simp
 have hcut : ∀ (j : Nat) (b : Pl) (r : Rt), bs[j]? = some b → Stands ns j r → Cut b ⟨b.x0, b.y0, b.x1, b.y1, M j⟩ r := by
  intro j b r hbj ⟨r', hr', hrr⟩
  have h5 := i5 j b hbj
  obtain ⟨m1, m2, m3, m4⟩ := hM j b r' hbj hr'
  exact ⟨⟨rfl, rfl, rfl, rfl⟩, h5.1.1, m2, h5.2.1, m3, m4.stands h5.1.1.1.1 hrr⟩
 have har : ∀ q, q ≤ n → (cd (n - q) x1 - cd (n - q) x0) * (cd (n - q) y1 - cd (n - q) y0) ≤ 1048576 := by
  intro q hq
  obtain ⟨⟨e1, e2, e3, e4⟩, hf⟩ := i6 q hq
  have := hf.1.2.2.1
  rw [e1, e2, e3, e4] at this
  exact this
 have hsyn := syn_pair hkk hn hres hx hy (bs := bs) (bs' := bs') (e := e) (win := win) har
  ⟨u0 0, _, i3, hget 0 _ i3, by have := (i6 0 (Nat.zero_le _)).1; rwa [Nat.sub_zero] at this, hcut 0 _ _ i3 hs0⟩
  (fun q hq => by
   obtain ⟨D1, D2, D3, s1, s2, s3, _, _⟩ := i7 q (by omega)
   obtain ⟨e1, e2, e3, e4⟩ := (i6 (q + 1) (by omega)).1
   rw [e1, e2, e3, e4] at s1 s2 s3
   obtain ⟨t1, t2, t3, t4, t5⟩ := hsq q hq
   exact ⟨_, _, _, _, _, _, ⟨s1, s2, s3⟩, ⟨hget _ _ s1, hget _ _ s2, hget _ _ s3⟩, ⟨rfl, rfl, rfl, rfl⟩, ⟨rfl, rfl, rfl, rfl⟩, ⟨rfl, rfl, rfl, rfl⟩, hcut _ _ _ s1 t1, hcut _ _ _ s2 t2, hcut _ _ _ s3 t3, t4, t5⟩)
  res (Nat.le_refl _)
 obtain ⟨u, v, h1, h2, h3, h4, Ga, Gb, h5, h6, h7, h8, h9, h10, h11⟩ := hsyn
 have hbo' : ∀ (j : Nat) (b : Pl), bs'[j]? = some b → BandOk x0 y0 x1 y1 (n : Int) j b := by
  intro j b' hj
  have hjl : j < bs.length := by rw [← hbl']; exact (List.getElem?_eq_some_iff.mp hj).1
  obtain ⟨b, hbj⟩ : ∃ b, bs[j]? = some b := ⟨_, List.getElem?_eq_getElem hjl⟩
  obtain ⟨nd, hnj⟩ : ∃ nd, ns[j]? = some nd := ⟨_, List.getElem?_eq_getElem (show j < ns.length by omega)⟩
  rw [hget j b hbj] at hj
  obtain rfl := Option.some.inj hj
  obtain ⟨m1, m2, m3, m4⟩ := hM j b nd hbj hnj
  have h5 := i5 j b hbj
  exact ⟨m2, h5.1.2.1, 2000000, pexceeds_f (m3.mono (by decide)) (by decide) (by decide) (by obtain ⟨_, _, _, _, l1, l2⟩ := m2.nat; show (M j).length < 2000000; omega) (by decide)⟩
 obtain ⟨wr, mr, hwr, hmr, _, hlr⟩ := h7.nat
 obtain ⟨⟨r1, r2, r3⟩, ⟨s1, s2, s3⟩, _, _⟩ := id h7
 refine TopLocal.good n res 1 2000000 kp 1 3000000 k6 kk (reach kk + 1) qa qb _ zn x0 y0 x1 y1 z0 z1 z2 z3 _ _ _ _ A c D Ga Gb bs bs' ns wn u v w hr hc hv hsm hkn hwv (margin3 hkk) (by have := reach_le kk; omega) (pexceeds_f (hb.mono (by decide)) (by decide) (by decide) (by omega) (by decide)) ⟨hres, hn⟩ i1 hnd hnl
  (fun j b nd hbj hnj => ⟨_, hget j b hbj, ⟨rfl, rfl, rfl, rfl⟩, (hM j b nd hbj hnj).1⟩) hbl' h5 h1 h3 (fun j b _ hj => (i5 j b hj).1) h6 h2 h4 (fun j b _ hj => hbo' j b hj)
  (res_of hn hres hx hy) (ra_of ⟨r1, r3⟩ ⟨s1, s3⟩ hwr hmr hlr) (by omega) (rv_of hx hy) h06 hwi ?_ hqa hzn hqb
 rcases hfin with hf | ⟨hf, hwe, hA⟩
 ·exact .inl hf
 ·rw [hwe] at h11
  obtain ⟨X, c1, c2, c3⟩ := crop_pair h7 h8 hA h11
  exact .inr ⟨hf, X, c1, c2, same_all (by show 1 ≤ 1000; omega) (fun s hs => by
   obtain rfl : s = ⟨⟨wn.1, wn.2.1, wn.2.2.1, wn.2.2.2⟩, X⟩ := by simpa using hs
   show X.length ≤ 2000000
   omega)⟩
end Go.Proofs.Ytcnpekpgghppnaa.Q
