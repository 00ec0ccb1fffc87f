/- Texts of this session (words and printed walks, merged by wip/tools/merge.py) for the statement of the claim. -/
import Derived.Test.YtcnpekpgghppnaaMTr1
import Derived.Test.YtcnpekpgghppnaaMTr4
import Derived.Test.YtcnpekpgghppnaaMTr8
import Derived.Test.YtcnpekpgghppnaaMTr5
import Derived.Test.YtcnpekpgghppnaaMTr7
import Derived.Test.YtcnpekpgghppnaaMTr9
namespace Go.Proofs.Ytcnpekpgghppnaa.Q
open Go.RowKit Go.Proofs.YtcnpekpgghppnaaW.PrintWords Go.Proofs.YtcnpekpgghppnaaW.PrintLast Go.Proofs.YtcnpekpgghppnaaW.PrintMore
attribute [local go_sem] max2_int min2_int max_two min_two max_three min_three max_four min_four   -- for this text's walks alone
set_option linter.unusedVariables false
set_option linter.unusedSimpArgs false

/-! ### wavelettop_knownTransform: function 21 -/
def wavelettop_knownTransform.f (a0 : Int) : Option (Bool) := if a0 ≥ 0 then (some (decide (a0 ≤ 2))) else (some false)
set_option maxHeartbeats 8000000 in
set_option maxRecDepth 100000 in
theorem wavelettop_knownTransform.calls (a0 : Int) (r : Bool) (w : World) (h : wavelettop_knownTransform.f a0 = some r) :
    Calls Try.prog 21 #[.int .i64 a0] w fun e w' => e = .returned (.bool r) ∧ Drawn0 w w' := by
  have H : (if a0 ≥ 0 then (some (decide (a0 ≤ 2))) else (some false)) = some r := h
  clear h
  by_cases c2 : a0 ≥ 0
  · rw [if_pos c2] at H
    have c2b0 : decide (0 ≤ a0) = true := decide_eq_true c2
    clear c2
    obtain rfl := Option.some.inj H
    go_enter Try.func21, Try.ntmps21
    go_wp2
    go_ret
    exact ⟨by first | rfl | (simp; done) | (simp [*]; done), by repeat (first | exact Drawn0.refl _ | apply Drawn0.step)⟩
  · rw [if_neg c2] at H
    have c2b0 : decide (0 ≤ a0) = false := decide_eq_false c2
    clear c2
    obtain rfl := Option.some.inj H
    go_enter Try.func21, Try.ntmps21
    go_wp2
    go_ret
    exact ⟨by first | rfl | (simp; done) | (simp [*]; done), by repeat (first | exact Drawn0.refl _ | apply Drawn0.step)⟩

end Go.Proofs.Ytcnpekpgghppnaa.Q

namespace Go.Proofs.Ytcnpekpgghppnaa.Q
open Go.RowKit Go.Proofs.YtcnpekpgghppnaaW.PrintWords Go.Proofs.YtcnpekpgghppnaaW.PrintLast Go.Proofs.YtcnpekpgghppnaaW.PrintMore
attribute [local go_sem] max2_int min2_int max_two min_two max_three min_three max_four min_four   -- for this text's walks alone
set_option linter.unusedVariables false
set_option linter.unusedSimpArgs false

/-! ### waveletref02_SameInts: function 83 -/
def waveletref02_SameInts.l0 : Nat → List Int → List Int → Int → Option (Bool)
  | 0, _, _, _ => none
  | k + 1, x0, x1, x5 => if x5 < (x0.length : Int) then (if 0 ≤ x5 then (if x5 < (x1.length : Int) then (if (rd x0 x5) = (rd x1 x5) then (waveletref02_SameInts.l0 k x0 x1 (wrap64 (x5 + 1))) else (some false)) else (none)) else (none)) else (some true)
def waveletref02_SameInts.f (k : Nat) (l0 : List Int) (l1 : List Int) : Option (Bool) := if (l0.length : Int) = (l1.length : Int) then (waveletref02_SameInts.l0 k l0 l1 0) else (some false)
theorem waveletref02_SameInts.mono_l : ∀ k, (∀ y0 y1 y2, LeO (waveletref02_SameInts.l0 k y0 y1 y2) (waveletref02_SameInts.l0 (k + 1) y0 y1 y2))
  | 0 => fun _ _ _ r h => by simp [waveletref02_SameInts.l0] at h
  | k + 1 => by
    have ih0 := waveletref02_SameInts.mono_l k
    · intro y0 y1 y2
      unfold waveletref02_SameInts.l0
      repeat' first
      | (with_reducible exact ih0 _ _ _)
      | (with_reducible exact LeO.refl _)
      | (with_reducible exact LeO.none _)
      | (with_reducible refine LeO.ite ?_ ?_)
      | (with_reducible refine LeO.bind ?_ (fun _ => ?_))
      | exact ih0 _ _ _
      | exact LeO.none _
      | refine LeO.ite ?_ ?_
      | refine LeO.bind ?_ (fun _ => ?_)
theorem waveletref02_SameInts.mono : ∀ a0 a1 k, LeO (waveletref02_SameInts.f k a0 a1) (waveletref02_SameInts.f (k + 1) a0 a1) := by
  intro a0 a1 k
  have ih0 := waveletref02_SameInts.mono_l k
  unfold waveletref02_SameInts.f
  repeat' first
      | (with_reducible exact ih0 _ _ _)
      | (with_reducible exact LeO.refl _)
      | (with_reducible exact LeO.none _)
      | (with_reducible refine LeO.ite ?_ ?_)
      | (with_reducible refine LeO.bind ?_ (fun _ => ?_))
      | exact ih0 _ _ _
      | exact LeO.none _
      | refine LeO.ite ?_ ?_
      | refine LeO.bind ?_ (fun _ => ?_)
set_option maxHeartbeats 8000000 in
set_option maxRecDepth 100000 in
theorem waveletref02_SameInts.calls (k : Nat) (A0 : Option Addr) (c0 : Nat) (l0 : List Int) (A1 : Option Addr) (c1 : Nat) (l1 : List Int) (r : Bool) (w : World) (hr0 : Kd.C (Kd.int .i64) w A0 l0.length l0) (hc0 : l0.length ≤ c0) (hr1 : Kd.C (Kd.int .i64) w A1 l1.length l1) (hc1 : l1.length ≤ c1) (h : waveletref02_SameInts.f k l0 l1 = some r) :
    Calls Try.prog 83 #[.slice A0 l0.length c0, .slice A1 l1.length c1] w fun e w' => e = .returned (.bool r) ∧ Drawn0 w w' := by
  have HR0 := Aside0.mk hr0
  have HC0 := Aside0.mk hc0
  clear hr0 hc0
  have HR1 := Aside0.mk hr1
  have HC1 := Aside0.mk hc1
  clear hr1 hc1
  have H : (if (l0.length : Int) = (l1.length : Int) then (waveletref02_SameInts.l0 k l0 l1 0) else (some false)) = some r := h
  clear h
  by_cases c3 : (l0.length : Int) = (l1.length : Int)
  · rw [if_pos c3] at H
    have c3b0 : ((l0.length : Int) == (l1.length : Int)) = true := beq_iff_eq.mpr c3
    have c3b1 : ((l0.length : Int) != (l1.length : Int)) = false := bne_eq_false_iff_eq.mpr c3
    have c3b2 : (l0.length == l1.length) = true := by first | simpa using c3 | (simp at c3 ⊢; omega)
    clear c3
    have H' := Aside0.mk H
    clear H
    go_enter Try.func83, Try.ntmps83
    go_wp2
    repeat (go_quiet (fail); try go_wp2)
    go_loopg [5] k (fun kq v5 w' => ∃ (x5_1 : Int), v5 = .int .i64 x5_1 ∧ Aside0 (waveletref02_SameInts.l0 kq l0 l1 x5_1 = some r) ∧ Aside0 (kq ≤ k) ∧ Drawn0 w w')
    case atStart => exact ⟨(0), (by first | rfl | (simp; done) | (simp [*]; done)), H', ⟨Nat.le_refl _⟩, by repeat (first | exact Drawn0.refl _ | apply Drawn0.step)⟩
    case round =>
      clear H'
      try clear c1
      try clear p2
      try clear c3
      try clear c3b0
      try clear c3b1
      try clear c3b2
      obtain ⟨x5_1, rfl, HA, HK1, ⟨m1, rfl⟩⟩ := hrel
      cases gk with
      | zero => exact absurd HA.out (by simp [waveletref02_SameInts.l0])
      | succ k1 =>
        have H := HA.out
        clear HA
        simp only [waveletref02_SameInts.l0] at H
        by_cases c4 : x5_1 < (l0.length : Int)
        · rw [if_pos c4] at H
          have c4b0 : decide (x5_1 < (l0.length : Int)) = true := decide_eq_true c4
          clear c4
          by_cases c5 : 0 ≤ x5_1
          · rw [if_pos c5] at H
            have c5b0 : decide (0 ≤ x5_1) = true := decide_eq_true c5
            clear c5
            by_cases c6 : x5_1 < (l1.length : Int)
            · rw [if_pos c6] at H
              have c6b0 : decide (x5_1 < (l1.length : Int)) = true := decide_eq_true c6
              clear c6
              by_cases c7 : (rd l0 x5_1) = (rd l1 x5_1)
              · rw [if_pos c7] at H
                have c7b0 : ((rd l0 x5_1) == (rd l1 x5_1)) = true := beq_iff_eq.mpr c7
                have c7b1 : ((rd l0 x5_1) != (rd l1 x5_1)) = false := bne_eq_false_iff_eq.mpr c7
                clear c7
                have H' := Aside0.mk H
                clear H
                have p306 : 0 ≤ (x5_1 : Int) := of_decide_eq_true (by first | (with_reducible assumption) | assumption)
                have q306 : x5_1 < (l0.length : Int) := of_decide_eq_true (by first | (with_reducible assumption) | assumption)
                obtain ⟨ad306, e306, hx306_0⟩ := Kd.at_int HR0.out x5_1 p306 q306
                cases e306
                replace p306 := eq_true p306
                replace q306 := eq_true q306
                have p307 : 0 ≤ (x5_1 : Int) := of_decide_eq_true (by first | (with_reducible assumption) | assumption)
                have q307 : x5_1 < (l1.length : Int) := of_decide_eq_true (by first | (with_reducible assumption) | assumption)
                obtain ⟨ad307, e307, hx307_0⟩ := Kd.at_int HR1.out x5_1 p307 q307
                cases e307
                replace p307 := eq_true p307
                replace q307 := eq_true q307
                go_wp2
                repeat (go_quiet (fail); try go_wp2)
                go_roundg k1
                case measure => have := HK1.out; omega
                case rel => exact ⟨(wrap64 (x5_1 + 1)), (by first | rfl | (simp; done) | (simp [*]; done)), H', ⟨by have := HK1.out; omega⟩, by repeat (first | exact Drawn0.refl _ | apply Drawn0.step)⟩
              · rw [if_neg c7] at H
                have c7b0 : ((rd l0 x5_1) == (rd l1 x5_1)) = false := beq_eq_false_iff_ne.mpr c7
                have c7b1 : ((rd l0 x5_1) != (rd l1 x5_1)) = true := bne_iff_ne.mpr c7
                obtain rfl := Option.some.inj H
                have p306 : 0 ≤ (x5_1 : Int) := of_decide_eq_true (by first | (with_reducible assumption) | assumption)
                have q306 : x5_1 < (l0.length : Int) := of_decide_eq_true (by first | (with_reducible assumption) | assumption)
                obtain ⟨ad306, e306, hx306_0⟩ := Kd.at_int HR0.out x5_1 p306 q306
                cases e306
                replace p306 := eq_true p306
                replace q306 := eq_true q306
                have p307 : 0 ≤ (x5_1 : Int) := of_decide_eq_true (by first | (with_reducible assumption) | assumption)
                have q307 : x5_1 < (l1.length : Int) := of_decide_eq_true (by first | (with_reducible assumption) | assumption)
                obtain ⟨ad307, e307, hx307_0⟩ := Kd.at_int HR1.out x5_1 p307 q307
                cases e307
                replace p307 := eq_true p307
                replace q307 := eq_true q307
                go_wp2
                repeat (go_quiet (fail); try go_wp2)
                go_ret
                exact ⟨by first | rfl | (simp; done) | (simp [*]; done), by repeat (first | exact Drawn0.refl _ | apply Drawn0.step)⟩
            · rw [if_neg c6] at H
              exact absurd H (by simp)
          · rw [if_neg c5] at H
            exact absurd H (by simp)
        · rw [if_neg c4] at H
          have c4b0 : decide (x5_1 < (l0.length : Int)) = false := decide_eq_false c4
          clear c4
          obtain rfl := Option.some.inj H
          go_wp2
          repeat (go_quiet (fail); try go_wp2)
          go_ret
          exact ⟨by first | rfl | (simp; done) | (simp [*]; done), by repeat (first | exact Drawn0.refl _ | apply Drawn0.step)⟩
  · rw [if_neg c3] at H
    have c3b0 : ((l0.length : Int) == (l1.length : Int)) = false := beq_eq_false_iff_ne.mpr c3
    have c3b1 : ((l0.length : Int) != (l1.length : Int)) = true := bne_iff_ne.mpr c3
    have c3b2 : (l0.length == l1.length) = false := by first | simpa using c3 | (simp at c3 ⊢; omega)
    obtain rfl := Option.some.inj H
    go_enter Try.func83, Try.ntmps83
    go_wp2
    repeat (go_quiet (fail); try go_wp2)
    go_ret
    exact ⟨by first | rfl | (simp; done) | (simp [*]; done), by repeat (first | exact Drawn0.refl _ | apply Drawn0.step)⟩

end Go.Proofs.Ytcnpekpgghppnaa.Q

namespace Go.Proofs.Ytcnpekpgghppnaa.Q
open Go.RowKit Go.Proofs.YtcnpekpgghppnaaW.PrintWords Go.Proofs.YtcnpekpgghppnaaW.PrintLast Go.Proofs.YtcnpekpgghppnaaW.PrintMore
attribute [local go_sem] max2_int min2_int max_two min_two max_three min_three max_four min_four   -- for this text's walks alone
set_option linter.unusedVariables false
set_option linter.unusedSimpArgs false

attribute [local go_sem high] eqA23
/-! ### waveletref02_Same: function 69 -/
def waveletref02_Same.f (k : Nat) (a0_0 : Int) (a0_1 : Int) (a0_2 : Int) (a0_3 : Int) (l0_4 : List Int) (a1_0 : Int) (a1_1 : Int) (a1_2 : Int) (a1_3 : Int) (l1_4 : List Int) : Option (Bool) := if (a0_0 == a1_0 && (a0_1 == a1_1 && (a0_2 == a1_2 && (a0_3 == a1_3)))) = true then ((waveletref02_SameInts.f k l0_4 l1_4).bind fun t310 => (some t310)) else (some false)
theorem waveletref02_Same.mono : ∀ a0 a1 a2 a3 a4 a5 a6 a7 a8 a9 k, LeO (waveletref02_Same.f k a0 a1 a2 a3 a4 a5 a6 a7 a8 a9) (waveletref02_Same.f (k + 1) a0 a1 a2 a3 a4 a5 a6 a7 a8 a9) := by
  intro a0 a1 a2 a3 a4 a5 a6 a7 a8 a9 k
  unfold waveletref02_Same.f
  repeat' first
      | (with_reducible exact waveletref02_SameInts.mono _ _ _)
      | (with_reducible exact LeO.refl _)
      | (with_reducible exact LeO.none _)
      | (with_reducible refine LeO.ite ?_ ?_)
      | (with_reducible refine LeO.bind ?_ (fun _ => ?_))
      | exact waveletref02_SameInts.mono _ _ _
      | exact LeO.none _
      | refine LeO.ite ?_ ?_
      | refine LeO.bind ?_ (fun _ => ?_)
set_option maxHeartbeats 8000000 in
set_option maxRecDepth 100000 in
theorem waveletref02_Same.calls (k : Nat) (a0_0 : Int) (a0_1 : Int) (a0_2 : Int) (a0_3 : Int) (A0_4 : Option Addr) (c0_4 : Nat) (l0_4 : List Int) (a1_0 : Int) (a1_1 : Int) (a1_2 : Int) (a1_3 : Int) (A1_4 : Option Addr) (c1_4 : Nat) (l1_4 : List Int) (r : Bool) (w : World) (hr0_4 : Kd.C (Kd.int .i64) w A0_4 l0_4.length l0_4) (hc0_4 : l0_4.length ≤ c0_4) (hr1_4 : Kd.C (Kd.int .i64) w A1_4 l1_4.length l1_4) (hc1_4 : l1_4.length ≤ c1_4) (h : waveletref02_Same.f k a0_0 a0_1 a0_2 a0_3 l0_4 a1_0 a1_1 a1_2 a1_3 l1_4 = some r) :
    Calls Try.prog 69 #[.agg #[.int .i64 a0_0, .int .i64 a0_1, .int .i64 a0_2, .int .i64 a0_3, .slice A0_4 l0_4.length c0_4], .agg #[.int .i64 a1_0, .int .i64 a1_1, .int .i64 a1_2, .int .i64 a1_3, .slice A1_4 l1_4.length c1_4]] w fun e w' => e = .returned (.bool r) ∧ Below w.heap.size w w' := by
  have hu26 := Try.underlying26
  have hu23 := Try.underlying23
  have HR0_4 := Aside0.mk hr0_4
  have HC0_4 := Aside0.mk hc0_4
  clear hr0_4 hc0_4
  have HR1_4 := Aside0.mk hr1_4
  have HC1_4 := Aside0.mk hc1_4
  clear hr1_4 hc1_4
  have HB := Aside0.mk (Below.refl w.heap.size w)
  have H : (if (a0_0 == a1_0 && (a0_1 == a1_1 && (a0_2 == a1_2 && (a0_3 == a1_3)))) = true then ((waveletref02_SameInts.f k l0_4 l1_4).bind fun t310 => (some t310)) else (some false)) = some r := h
  clear h
  by_cases c3 : (a0_0 == a1_0 && (a0_1 == a1_1 && (a0_2 == a1_2 && (a0_3 == a1_3)))) = true
  · rw [if_pos c3] at H
    have c3b0 : (a0_0 == a1_0 && (a0_1 == a1_1 && (a0_2 == a1_2 && (a0_3 == a1_3)))) = true := c3
    (try (have c3b1 : decide (a0_0 = a1_0 && (a0_1 == a1_1 && (a0_2 == a1_2 && (a0_3 == a1_3)))) = true := by simpa using c3))
    (try (have c3b2 : (a0_0 == a1_0 && (a0_1 == a1_1 && (a0_2 == a1_2 && (a0_3 == a1_3)))) = true := by simpa using c3))
    clear c3
    replace H := Option.bind_eq_some_iff.mp H
    obtain ⟨t310, A40, H⟩ := H
    replace H : (some t310) = some r := H
    have A4 := Aside0.mk A40
    clear A40
    obtain rfl := Option.some.inj H
    go_enter Try.func69, Try.ntmps69
    go_wp2_with (first | ((with_reducible refine gate_dst (N := 2) rfl ?_); refine box_event ?hg (N := 2) ?hd (cs := #[.int .i64 a0_0, .int .i64 a0_1, .int .i64 a0_2, .int .i64 a0_3, .slice A0_4 l0_4.length c0_4]) (t := 26) ?hr ?_; (case hd => rfl); (case hg => rfl); (case hr => first | (go_simp; done) | (go_simp; rfl)); intro gb308 hg w5 hbox hb; have n0_ := Aside0.mk (below_step (by repeat (first | (with_reducible first | exact HB.out | apply below_alloc | apply pw_below_drewN | apply below_drew1) | exact HB.out)) hb); have n1_ := Aside0.mk (hbox); have n2_ := Aside0.mk ((by rw [hg]; exact (below_size (by repeat (first | (with_reducible first | exact HB.out | apply below_alloc | apply pw_below_drewN | apply below_drew1) | exact HB.out))) : w.heap.size ≤ gb308)); have n3_ := Aside0.mk ((by rw [hg]; exact (below_size (by repeat (first | (with_reducible first | exact HB.out | apply below_alloc | apply pw_below_drewN | apply below_drew1) | exact HB.out))) : w.heap.size ≤ gb308)); clear HB; have HB := n0_; have BK308 := n1_; have GW308 := n2_; have GE308 := n3_; clear n0_ n1_ n2_ n3_; clear hb hbox hg) | ((with_reducible refine gate_dst (N := 3) rfl ?_); refine box_event ?hg (N := 3) ?hd (cs := #[.int .i64 a1_0, .int .i64 a1_1, .int .i64 a1_2, .int .i64 a1_3, .slice A1_4 l1_4.length c1_4]) (t := 26) ?hr ?_; (case hd => rfl); (case hg => rfl); (case hr => first | (go_simp; done) | (go_simp; rfl)); intro gb309 hg w6 hbox hb; have n0_ := Aside0.mk (blk_below (g := gb308) (o := .cells #[.int .i64 a0_0, .int .i64 a0_1, .int .i64 a0_2, .int .i64 a0_3, .slice A0_4 l0_4.length c0_4] 26 (0, 0)) (by (with_reducible repeat (first | refine blk_drewN ?_ _ | refine blk_drew ?_ | refine blk_alloc ?_ _)); exact BK308.out) hb); have n1_ := Aside0.mk (below_step (by repeat (first | (with_reducible first | exact HB.out | apply below_alloc | apply pw_below_drewN | apply below_drew1 | refine below_set ?_ GE308.out) | exact HB.out)) hb); have n2_ := Aside0.mk (hbox); have n3_ := Aside0.mk ((by rw [hg]; exact (below_size (by repeat (first | (with_reducible first | exact HB.out | apply below_alloc | apply pw_below_drewN | apply below_drew1 | refine below_set ?_ GE308.out) | exact HB.out))) : w.heap.size ≤ gb309)); have n4_ := Aside0.mk ((by rw [hg]; exact (below_size (by repeat (first | (with_reducible first | exact HB.out | apply below_alloc | apply pw_below_drewN | apply below_drew1 | refine below_set ?_ GE308.out) | exact HB.out))) : w.heap.size ≤ gb309)); have n5_ := Aside0.mk ((by rw [hg]; exact Nat.ne_of_lt (blk_lt (g := gb308) (o := .cells #[.int .i64 a0_0, .int .i64 a0_1, .int .i64 a0_2, .int .i64 a0_3, .slice A0_4 l0_4.length c0_4] 26 (0, 0)) (by (with_reducible repeat (first | refine blk_drewN ?_ _ | refine blk_drew ?_ | refine blk_alloc ?_ _)); exact BK308.out)) : gb308 ≠ gb309)); have n6_ := Aside0.mk ((by rw [hg]; exact Nat.ne_of_gt (blk_lt (g := gb308) (o := .cells #[.int .i64 a0_0, .int .i64 a0_1, .int .i64 a0_2, .int .i64 a0_3, .slice A0_4 l0_4.length c0_4] 26 (0, 0)) (by (with_reducible repeat (first | refine blk_drewN ?_ _ | refine blk_drew ?_ | refine blk_alloc ?_ _)); exact BK308.out)) : gb309 ≠ gb308)); clear BK308; clear HB; have BK308 := n0_; have HB := n1_; have BK309 := n2_; have GW309 := n3_; have GE309 := n4_; have NB308_309 := n5_; have NB309_308 := n6_; clear n0_ n1_ n2_ n3_ n4_ n5_ n6_; clear hb hbox hg; have hnb7 := NB308_309.out; have hnc7 := NB309_308.out; have hcz8_0 : w6.cell? ⟨gb308, 0, none⟩ = some (.int .i64 a0_0) := (blk_cell BK308.out 0).trans rfl; have hcz8_1 : w6.cell? ⟨gb308, 1, none⟩ = some (.int .i64 a0_1) := (blk_cell BK308.out 1).trans rfl; have hcz8_2 : w6.cell? ⟨gb308, 2, none⟩ = some (.int .i64 a0_2) := (blk_cell BK308.out 2).trans rfl; have hcz8_3 : w6.cell? ⟨gb308, 3, none⟩ = some (.int .i64 a0_3) := (blk_cell BK308.out 3).trans rfl; have hcz8_4 : w6.cell? ⟨gb308, 4, none⟩ = some (.slice A0_4 l0_4.length c0_4) := (blk_cell BK308.out 4).trans rfl; have hfz8_0 := blk_frozen BK308.out 0; have hfz8_1 := blk_frozen BK308.out 1; have hfz8_2 := blk_frozen BK308.out 2; have hfz8_3 := blk_frozen BK308.out 3; have hfz8_4 := blk_frozen BK308.out 4; have hcz9_0 : w6.cell? ⟨gb309, 0, none⟩ = some (.int .i64 a1_0) := (blk_cell BK309.out 0).trans rfl; have hcz9_1 : w6.cell? ⟨gb309, 1, none⟩ = some (.int .i64 a1_1) := (blk_cell BK309.out 1).trans rfl; have hcz9_2 : w6.cell? ⟨gb309, 2, none⟩ = some (.int .i64 a1_2) := (blk_cell BK309.out 2).trans rfl; have hcz9_3 : w6.cell? ⟨gb309, 3, none⟩ = some (.int .i64 a1_3) := (blk_cell BK309.out 3).trans rfl; have hcz9_4 : w6.cell? ⟨gb309, 4, none⟩ = some (.slice A1_4 l1_4.length c1_4) := (blk_cell BK309.out 4).trans rfl; have hfz9_0 := blk_frozen BK309.out 0; have hfz9_1 := blk_frozen BK309.out 1; have hfz9_2 := blk_frozen BK309.out 2; have hfz9_3 := blk_frozen BK309.out 3; have hfz9_4 := blk_frozen BK309.out 4) | (go_at_call 83; (with_reducible refine (waveletref02_SameInts.calls k _ _ l0_4 _ _ l1_4 t310 _ ?side1 ?side2 ?side3 ?side4 A4.out).mono ?_); (case side1 => repeat (first | exact (Kd.C_below HR0_4.out HB.out) | (with_reducible refine Kd.C_alloc ?_ _) | (with_reducible refine Kd.C_drewN ?_ _) | (with_reducible refine Kd.C_drew ?_))); (case side2 => exact HC0_4.out); (case side3 => repeat (first | exact (Kd.C_below HR1_4.out HB.out) | (with_reducible refine Kd.C_alloc ?_ _) | (with_reducible refine Kd.C_drewN ?_ _) | (with_reducible refine Kd.C_drew ?_))); (case side4 => exact HC1_4.out); rintro e w' ⟨rfl, ⟨nd, rfl⟩⟩))
    go_ret
    exact ⟨by first | rfl | (simp [errW_none, errW_some] <;> rfl) | (simp [*, errW_none, errW_some] <;> rfl), by repeat (first | (with_reducible first | exact HB.out | apply below_alloc | apply pw_below_drewN | apply below_drew1 | refine below_set ?_ GE308.out | refine below_set ?_ GE309.out) | exact HB.out)⟩
  · rw [if_neg c3] at H
    have c3b0 : (a0_0 == a1_0 && (a0_1 == a1_1 && (a0_2 == a1_2 && (a0_3 == a1_3)))) = false := by simpa using c3
    (try (have c3b1 : decide (a0_0 = a1_0 && (a0_1 == a1_1 && (a0_2 == a1_2 && (a0_3 == a1_3)))) = false := by simpa using c3))
    (try (have c3b2 : (a0_0 == a1_0 && (a0_1 == a1_1 && (a0_2 == a1_2 && (a0_3 == a1_3)))) = false := by simpa using c3))
    (try (have c3b3 : ¬ (a0_0 = a1_0 && (a0_1 == a1_1 && (a0_2 == a1_2 && (a0_3 == a1_3)))) := by simpa using c3))
    clear c3
    obtain rfl := Option.some.inj H
    go_enter Try.func69, Try.ntmps69
    go_wp2_with (first | ((with_reducible refine gate_dst (N := 2) rfl ?_); refine box_event ?hg (N := 2) ?hd (cs := #[.int .i64 a0_0, .int .i64 a0_1, .int .i64 a0_2, .int .i64 a0_3, .slice A0_4 l0_4.length c0_4]) (t := 26) ?hr ?_; (case hd => rfl); (case hg => rfl); (case hr => first | (go_simp; done) | (go_simp; rfl)); intro gb308 hg w10 hbox hb; have n0_ := Aside0.mk (below_step (by repeat (first | (with_reducible first | exact HB.out | apply below_alloc | apply pw_below_drewN | apply below_drew1) | exact HB.out)) hb); have n1_ := Aside0.mk (hbox); have n2_ := Aside0.mk ((by rw [hg]; exact (below_size (by repeat (first | (with_reducible first | exact HB.out | apply below_alloc | apply pw_below_drewN | apply below_drew1) | exact HB.out))) : w.heap.size ≤ gb308)); have n3_ := Aside0.mk ((by rw [hg]; exact (below_size (by repeat (first | (with_reducible first | exact HB.out | apply below_alloc | apply pw_below_drewN | apply below_drew1) | exact HB.out))) : w.heap.size ≤ gb308)); clear HB; have HB := n0_; have BK308 := n1_; have GW308 := n2_; have GE308 := n3_; clear n0_ n1_ n2_ n3_; clear hb hbox hg) | ((with_reducible refine gate_dst (N := 3) rfl ?_); refine box_event ?hg (N := 3) ?hd (cs := #[.int .i64 a1_0, .int .i64 a1_1, .int .i64 a1_2, .int .i64 a1_3, .slice A1_4 l1_4.length c1_4]) (t := 26) ?hr ?_; (case hd => rfl); (case hg => rfl); (case hr => first | (go_simp; done) | (go_simp; rfl)); intro gb309 hg w11 hbox hb; have n0_ := Aside0.mk (blk_below (g := gb308) (o := .cells #[.int .i64 a0_0, .int .i64 a0_1, .int .i64 a0_2, .int .i64 a0_3, .slice A0_4 l0_4.length c0_4] 26 (0, 0)) (by (with_reducible repeat (first | refine blk_drewN ?_ _ | refine blk_drew ?_ | refine blk_alloc ?_ _)); exact BK308.out) hb); have n1_ := Aside0.mk (below_step (by repeat (first | (with_reducible first | exact HB.out | apply below_alloc | apply pw_below_drewN | apply below_drew1 | refine below_set ?_ GE308.out) | exact HB.out)) hb); have n2_ := Aside0.mk (hbox); have n3_ := Aside0.mk ((by rw [hg]; exact (below_size (by repeat (first | (with_reducible first | exact HB.out | apply below_alloc | apply pw_below_drewN | apply below_drew1 | refine below_set ?_ GE308.out) | exact HB.out))) : w.heap.size ≤ gb309)); have n4_ := Aside0.mk ((by rw [hg]; exact (below_size (by repeat (first | (with_reducible first | exact HB.out | apply below_alloc | apply pw_below_drewN | apply below_drew1 | refine below_set ?_ GE308.out) | exact HB.out))) : w.heap.size ≤ gb309)); have n5_ := Aside0.mk ((by rw [hg]; exact Nat.ne_of_lt (blk_lt (g := gb308) (o := .cells #[.int .i64 a0_0, .int .i64 a0_1, .int .i64 a0_2, .int .i64 a0_3, .slice A0_4 l0_4.length c0_4] 26 (0, 0)) (by (with_reducible repeat (first | refine blk_drewN ?_ _ | refine blk_drew ?_ | refine blk_alloc ?_ _)); exact BK308.out)) : gb308 ≠ gb309)); have n6_ := Aside0.mk ((by rw [hg]; exact Nat.ne_of_gt (blk_lt (g := gb308) (o := .cells #[.int .i64 a0_0, .int .i64 a0_1, .int .i64 a0_2, .int .i64 a0_3, .slice A0_4 l0_4.length c0_4] 26 (0, 0)) (by (with_reducible repeat (first | refine blk_drewN ?_ _ | refine blk_drew ?_ | refine blk_alloc ?_ _)); exact BK308.out)) : gb309 ≠ gb308)); clear BK308; clear HB; have BK308 := n0_; have HB := n1_; have BK309 := n2_; have GW309 := n3_; have GE309 := n4_; have NB308_309 := n5_; have NB309_308 := n6_; clear n0_ n1_ n2_ n3_ n4_ n5_ n6_; clear hb hbox hg; have hnb12 := NB308_309.out; have hnc12 := NB309_308.out; have hcz13_0 : w11.cell? ⟨gb308, 0, none⟩ = some (.int .i64 a0_0) := (blk_cell BK308.out 0).trans rfl; have hcz13_1 : w11.cell? ⟨gb308, 1, none⟩ = some (.int .i64 a0_1) := (blk_cell BK308.out 1).trans rfl; have hcz13_2 : w11.cell? ⟨gb308, 2, none⟩ = some (.int .i64 a0_2) := (blk_cell BK308.out 2).trans rfl; have hcz13_3 : w11.cell? ⟨gb308, 3, none⟩ = some (.int .i64 a0_3) := (blk_cell BK308.out 3).trans rfl; have hcz13_4 : w11.cell? ⟨gb308, 4, none⟩ = some (.slice A0_4 l0_4.length c0_4) := (blk_cell BK308.out 4).trans rfl; have hfz13_0 := blk_frozen BK308.out 0; have hfz13_1 := blk_frozen BK308.out 1; have hfz13_2 := blk_frozen BK308.out 2; have hfz13_3 := blk_frozen BK308.out 3; have hfz13_4 := blk_frozen BK308.out 4; have hcz14_0 : w11.cell? ⟨gb309, 0, none⟩ = some (.int .i64 a1_0) := (blk_cell BK309.out 0).trans rfl; have hcz14_1 : w11.cell? ⟨gb309, 1, none⟩ = some (.int .i64 a1_1) := (blk_cell BK309.out 1).trans rfl; have hcz14_2 : w11.cell? ⟨gb309, 2, none⟩ = some (.int .i64 a1_2) := (blk_cell BK309.out 2).trans rfl; have hcz14_3 : w11.cell? ⟨gb309, 3, none⟩ = some (.int .i64 a1_3) := (blk_cell BK309.out 3).trans rfl; have hcz14_4 : w11.cell? ⟨gb309, 4, none⟩ = some (.slice A1_4 l1_4.length c1_4) := (blk_cell BK309.out 4).trans rfl; have hfz14_0 := blk_frozen BK309.out 0; have hfz14_1 := blk_frozen BK309.out 1; have hfz14_2 := blk_frozen BK309.out 2; have hfz14_3 := blk_frozen BK309.out 3; have hfz14_4 := blk_frozen BK309.out 4))
    go_ret
    exact ⟨by first | rfl | (simp [errW_none, errW_some] <;> rfl) | (simp [*, errW_none, errW_some] <;> rfl), by repeat (first | (with_reducible first | exact HB.out | apply below_alloc | apply pw_below_drewN | apply below_drew1 | refine below_set ?_ GE308.out | refine below_set ?_ GE309.out) | exact HB.out)⟩

end Go.Proofs.Ytcnpekpgghppnaa.Q

namespace Go.Proofs.Ytcnpekpgghppnaa.Q
open Go.RowKit Go.Proofs.YtcnpekpgghppnaaW.PrintWords Go.Proofs.YtcnpekpgghppnaaW.PrintLast Go.Proofs.YtcnpekpgghppnaaW.PrintMore
attribute [local go_sem] max2_int min2_int max_two min_two max_three min_three max_four min_four   -- for this text's walks alone
set_option linter.unusedVariables false
set_option linter.unusedSimpArgs false

/-! ### waveletref02_SameAll: function 44 -/
def waveletref02_SameAll.l0 : Nat → List (S26) → List (S26) → Int → Option (Bool)
  | 0, _, _, _ => none
  | k + 1, x0, x1, x5 => if x5 < (x0.length : Int) then (if 0 ≤ x5 then (if x5 < (x1.length : Int) then ((waveletref02_Same.f k ((rd_T26 x0 x5).f0.f0) ((rd_T26 x0 x5).f0.f1) ((rd_T26 x0 x5).f0.f2) ((rd_T26 x0 x5).f0.f3) ((rd_T26 x0 x5).f1) ((rd_T26 x1 x5).f0.f0) ((rd_T26 x1 x5).f0.f1) ((rd_T26 x1 x5).f0.f2) ((rd_T26 x1 x5).f0.f3) ((rd_T26 x1 x5).f1)).bind fun t313 => (if t313 = true then (waveletref02_SameAll.l0 k x0 x1 (wrap64 (x5 + 1))) else (some false))) else (none)) else (none)) else (some true)
def waveletref02_SameAll.f (k : Nat) (l0 : List (S26)) (l1 : List (S26)) : Option (Bool) := if (l0.length : Int) = (l1.length : Int) then (waveletref02_SameAll.l0 k l0 l1 0) else (some false)
theorem waveletref02_SameAll.mono_l : ∀ k, (∀ y0 y1 y2, LeO (waveletref02_SameAll.l0 k y0 y1 y2) (waveletref02_SameAll.l0 (k + 1) y0 y1 y2))
  | 0 => fun _ _ _ r h => by simp [waveletref02_SameAll.l0] at h
  | k + 1 => by
    have ih0 := waveletref02_SameAll.mono_l k
    · intro y0 y1 y2
      unfold waveletref02_SameAll.l0
      repeat' first
      | (with_reducible exact ih0 _ _ _)
      | (with_reducible exact waveletref02_Same.mono _ _ _ _ _ _ _ _ _ _ _)
      | (with_reducible exact LeO.refl _)
      | (with_reducible exact LeO.none _)
      | (with_reducible refine LeO.ite ?_ ?_)
      | (with_reducible refine LeO.bind ?_ (fun _ => ?_))
      | exact ih0 _ _ _
      | exact waveletref02_Same.mono _ _ _ _ _ _ _ _ _ _ _
      | exact LeO.none _
      | refine LeO.ite ?_ ?_
      | refine LeO.bind ?_ (fun _ => ?_)
theorem waveletref02_SameAll.mono : ∀ a0 a1 k, LeO (waveletref02_SameAll.f k a0 a1) (waveletref02_SameAll.f (k + 1) a0 a1) := by
  intro a0 a1 k
  have ih0 := waveletref02_SameAll.mono_l k
  unfold waveletref02_SameAll.f
  repeat' first
      | (with_reducible exact ih0 _ _ _)
      | (with_reducible exact waveletref02_Same.mono _ _ _ _ _ _ _ _ _ _ _)
      | (with_reducible exact LeO.refl _)
      | (with_reducible exact LeO.none _)
      | (with_reducible refine LeO.ite ?_ ?_)
      | (with_reducible refine LeO.bind ?_ (fun _ => ?_))
      | exact ih0 _ _ _
      | exact waveletref02_Same.mono _ _ _ _ _ _ _ _ _ _ _
      | exact LeO.none _
      | refine LeO.ite ?_ ?_
      | refine LeO.bind ?_ (fun _ => ?_)
def waveletref02_SameAll.T6 : Bool × List (List Nat × List Nat) := (true, [([], []), ([], []), ([0, 1], [0, 1]), ([2], [2]), ([], []), ([], []), ([4, 5], [4, 5]), ([6], [6]), ([3, 7], [3, 7]), ([8], [8])])
def waveletref02_SameAll.B6 : List Nat := [0, 0, 3, 7, 0, 0, 48, 112, 255, 511]
theorem waveletref02_SameAll.tab6 : rtab .any (opsOf Try.f44 6) = waveletref02_SameAll.T6 := by kernel_rfl
theorem waveletref02_SameAll.bits6 : waitsOk waveletref02_SameAll.T6.2 waveletref02_SameAll.B6 = true := by kernel_rfl
set_option maxHeartbeats 8000000 in
set_option maxRecDepth 100000 in
theorem waveletref02_SameAll.calls (k : Nat) (A0 : Option Addr) (c0 : Nat) (l0 : List (S26)) (A1 : Option Addr) (c1 : Nat) (l1 : List (S26)) (r : Bool) (w : World) (hr0 : Kd.C k26 w A0 l0.length l0) (hc0 : l0.length ≤ c0) (hr1 : Kd.C k26 w A1 l1.length l1) (hc1 : l1.length ≤ c1) (h : waveletref02_SameAll.f k l0 l1 = some r) :
    Calls Try.prog 44 #[.slice A0 l0.length c0, .slice A1 l1.length c1] w fun e w' => e = .returned (.bool r) ∧ Below w.heap.size w w' := by
  have hu26 := Try.underlying26
  have HR0 := Aside0.mk hr0
  have HC0 := Aside0.mk hc0
  clear hr0 hc0
  have HR1 := Aside0.mk hr1
  have HC1 := Aside0.mk hc1
  clear hr1 hc1
  have HB := Aside0.mk (Below.refl w.heap.size w)
  have H : (if (l0.length : Int) = (l1.length : Int) then (waveletref02_SameAll.l0 k l0 l1 0) else (some false)) = some r := h
  clear h
  by_cases c3 : (l0.length : Int) = (l1.length : Int)
  · rw [if_pos c3] at H
    have c3b0 : ((l0.length : Int) == (l1.length : Int)) = true := beq_iff_eq.mpr c3
    have c3b1 : ((l0.length : Int) != (l1.length : Int)) = false := bne_eq_false_iff_eq.mpr c3
    have c3b2 : (l0.length == l1.length) = true := by first | simpa using c3 | (simp at c3 ⊢; omega)
    clear c3
    have H' := Aside0.mk H
    clear H
    go_enter Try.func44, Try.ntmps44
    go_wp2
    go_loopg [5] k (fun kq v5 w' => ∃ (x5_1 : Int), v5 = .int .i64 x5_1 ∧ Aside0 (waveletref02_SameAll.l0 kq l0 l1 x5_1 = some r) ∧ Aside0 (kq ≤ k) ∧ Aside0 (Below w.heap.size w w'))
    case atStart => exact ⟨(0), (by first | rfl | (simp; done) | (simp [*]; done)), H', ⟨Nat.le_refl _⟩, ⟨by repeat (first | (with_reducible first | exact HB.out | apply below_alloc | apply pw_below_drewN | apply below_drew1) | exact HB.out)⟩⟩
    case round =>
      clear H'
      try clear c1
      try clear p2
      try clear c3
      try clear c3b0
      try clear c3b1
      try clear c3b2
      obtain ⟨x5_1, rfl, HA, HK1, HB⟩ := hrel
      cases gk with
      | zero => exact absurd HA.out (by simp [waveletref02_SameAll.l0])
      | succ k1 =>
        have H := HA.out
        clear HA
        simp only [waveletref02_SameAll.l0] at H
        by_cases c4 : x5_1 < (l0.length : Int)
        · rw [if_pos c4] at H
          have c4b0 : decide (x5_1 < (l0.length : Int)) = true := decide_eq_true c4
          clear c4
          by_cases c5 : 0 ≤ x5_1
          · rw [if_pos c5] at H
            have c5b0 : decide (0 ≤ x5_1) = true := decide_eq_true c5
            clear c5
            by_cases c6 : x5_1 < (l1.length : Int)
            · rw [if_pos c6] at H
              have c6b0 : decide (x5_1 < (l1.length : Int)) = true := decide_eq_true c6
              clear c6
              replace H := Option.bind_eq_some_iff.mp H
              obtain ⟨t313, A70, H⟩ := H
              replace H : (if t313 = true then (waveletref02_SameAll.l0 k1 l0 l1 (wrap64 (x5_1 + 1))) else (some false)) = some r := H
              have A7 := Aside0.mk A70
              clear A70
              by_cases c8 : t313 = true
              · subst c8
                have H1 : (waveletref02_SameAll.l0 k1 l0 l1 (wrap64 (x5_1 + 1))) = some r := by rw [if_pos rfl] at H; exact H
                clear H
                have H := H1
                clear H1
                have H' := Aside0.mk H
                clear H
                try go_wp2
                have n0_ := Aside0.mk (below_drew1 HB.out)
                clear HB
                have HB := n0_
                clear n0_
                have p311 : 0 ≤ (x5_1 : Int) := of_decide_eq_true (by first | (with_reducible assumption) | assumption)
                have q311 : x5_1 < (l0.length : Int) := of_decide_eq_true (by first | (with_reducible assumption) | assumption)
                obtain ⟨ad311, A311_4, c311_4, e311, hx311_0, hx311_1, hx311_2, hx311_3, hx311_4, hl311_4, hi311_4⟩ := at_T26 HR0.out x5_1 p311 q311
                have hw311_4 := hx311_4
                have hw311_3 := hx311_3
                have hw311_2 := hx311_2
                have hw311_1 := hx311_1
                have hw311_0 := hx311_0
                cases e311
                replace hx311_0 := (HB.out.cell (World.block_lt_of_cell? w _ hx311_0)).trans hx311_0
                replace hx311_1 := (HB.out.cell (World.block_lt_of_cell? w _ hx311_1)).trans hx311_1
                replace hx311_2 := (HB.out.cell (World.block_lt_of_cell? w _ hx311_2)).trans hx311_2
                replace hx311_3 := (HB.out.cell (World.block_lt_of_cell? w _ hx311_3)).trans hx311_3
                replace hx311_4 := (HB.out.cell (World.block_lt_of_cell? w _ hx311_4)).trans hx311_4
                have HR311_4 := Aside0.mk hi311_4
                have HC311_4 := Aside0.mk hl311_4
                clear hi311_4 hl311_4
                replace p311 := eq_true p311
                replace q311 := eq_true q311
                have p312 : 0 ≤ (x5_1 : Int) := of_decide_eq_true (by first | (with_reducible assumption) | assumption)
                have q312 : x5_1 < (l1.length : Int) := of_decide_eq_true (by first | (with_reducible assumption) | assumption)
                obtain ⟨ad312, A312_4, c312_4, e312, hx312_0, hx312_1, hx312_2, hx312_3, hx312_4, hl312_4, hi312_4⟩ := at_T26 HR1.out x5_1 p312 q312
                have hw312_4 := hx312_4
                have hw312_3 := hx312_3
                have hw312_2 := hx312_2
                have hw312_1 := hx312_1
                have hw312_0 := hx312_0
                cases e312
                replace hx312_0 := (HB.out.cell (World.block_lt_of_cell? w _ hx312_0)).trans hx312_0
                replace hx312_1 := (HB.out.cell (World.block_lt_of_cell? w _ hx312_1)).trans hx312_1
                replace hx312_2 := (HB.out.cell (World.block_lt_of_cell? w _ hx312_2)).trans hx312_2
                replace hx312_3 := (HB.out.cell (World.block_lt_of_cell? w _ hx312_3)).trans hx312_3
                replace hx312_4 := (HB.out.cell (World.block_lt_of_cell? w _ hx312_4)).trans hx312_4
                have HR312_4 := Aside0.mk hi312_4
                have HC312_4 := Aside0.mk hl312_4
                clear hi312_4 hl312_4
                replace p312 := eq_true p312
                replace q312 := eq_true q312
                refine start_ (n := 10) (S := fun w' => w'.cell? (ad311.add ((x5_1).toNat * 5)) = some (.int .i64 ((rd_T26 l0 x5_1).f0.f0)) ∧ w'.cell? ⟨(ad311.add ((x5_1).toNat * 5)).block, (ad311.add ((x5_1).toNat * 5)).off + 1, none⟩ = some (.int .i64 ((rd_T26 l0 x5_1).f0.f1)) ∧ w'.cell? ⟨(ad311.add ((x5_1).toNat * 5)).block, (ad311.add ((x5_1).toNat * 5)).off + 2, none⟩ = some (.int .i64 ((rd_T26 l0 x5_1).f0.f2)) ∧ w'.cell? ⟨(ad311.add ((x5_1).toNat * 5)).block, (ad311.add ((x5_1).toNat * 5)).off + 3, none⟩ = some (.int .i64 ((rd_T26 l0 x5_1).f0.f3)) ∧ w'.cell? ⟨(ad311.add ((x5_1).toNat * 5)).block, (ad311.add ((x5_1).toNat * 5)).off + 4, none⟩ = some (.slice A311_4 ((rd_T26 l0 x5_1).f1).length c311_4) ∧ w'.cell? (ad312.add ((x5_1).toNat * 5)) = some (.int .i64 ((rd_T26 l1 x5_1).f0.f0)) ∧ w'.cell? ⟨(ad312.add ((x5_1).toNat * 5)).block, (ad312.add ((x5_1).toNat * 5)).off + 1, none⟩ = some (.int .i64 ((rd_T26 l1 x5_1).f0.f1)) ∧ w'.cell? ⟨(ad312.add ((x5_1).toNat * 5)).block, (ad312.add ((x5_1).toNat * 5)).off + 2, none⟩ = some (.int .i64 ((rd_T26 l1 x5_1).f0.f2)) ∧ w'.cell? ⟨(ad312.add ((x5_1).toNat * 5)).block, (ad312.add ((x5_1).toNat * 5)).off + 3, none⟩ = some (.int .i64 ((rd_T26 l1 x5_1).f0.f3)) ∧ w'.cell? ⟨(ad312.add ((x5_1).toNat * 5)).block, (ad312.add ((x5_1).toNat * 5)).off + 4, none⟩ = some (.slice A312_4 ((rd_T26 l1 x5_1).f1).length c312_4)) (ds := []) #[false, false, false, false, false, false, false, false, false, false] (by kernel_rfl) rfl rfl ⟨((HB.out.cell (World.block_lt_of_cell? w _ hw311_0)).trans hw311_0), ((HB.out.cell (World.block_lt_of_cell? w _ hw311_1)).trans hw311_1), ((HB.out.cell (World.block_lt_of_cell? w _ hw311_2)).trans hw311_2), ((HB.out.cell (World.block_lt_of_cell? w _ hw311_3)).trans hw311_3), ((HB.out.cell (World.block_lt_of_cell? w _ hw311_4)).trans hw311_4), ((HB.out.cell (World.block_lt_of_cell? w _ hw312_0)).trans hw312_0), ((HB.out.cell (World.block_lt_of_cell? w _ hw312_1)).trans hw312_1), ((HB.out.cell (World.block_lt_of_cell? w _ hw312_2)).trans hw312_2), ((HB.out.cell (World.block_lt_of_cell? w _ hw312_3)).trans hw312_3), ((HB.out.cell (World.block_lt_of_cell? w _ hw312_4)).trans hw312_4)⟩ (fun hHeld => ?_); refine with_tabW waveletref02_SameAll.tab6 waveletref02_SameAll.bits6 (fun HT_ HW_ => ?_)
                generalize wr.drew = w9 at HB HR311_4 HR312_4 hx311_0 hx311_1 hx311_2 hx311_3 hx311_4 hx312_0 hx312_1 hx312_2 hx312_3 hx312_4 hHeld ⊢
                refine pure_ (i := 0) (N := some 17) (v := ?_) (a' := ?_) #[true, false, false, false, false, false, false, false, false, false] rfl rfl (any_of HT_.out (by kernel_rfl)) (fun _ _ _ h => h) (Or.inl ⟨by rfl, ?_⟩) ?_ ?_
                rotate_left
                · intro w'
                  go_simp
                  with_reducible rfl
                rotate_left
                · simp only [Act.put, List.setIfInBounds_toArray, List.set_cons_zero, List.set_cons_succ, i64_w, i32_w]
                  rfl
                refine pure_ (i := 1) (N := some 18) (v := ?_) (a' := ?_) #[true, true, false, false, false, false, false, false, false, false] rfl rfl (any_of HT_.out (by kernel_rfl)) (fun _ _ _ h => h) (Or.inl ⟨by rfl, ?_⟩) ?_ ?_
                rotate_left
                · intro w'
                  go_simp
                  with_reducible rfl
                rotate_left
                · simp only [Act.put, List.setIfInBounds_toArray, List.set_cons_zero, List.set_cons_succ, i64_w, i32_w]
                  rfl
                refine pure_ (i := 2) (N := some 19) (v := ?_) (a' := ?_) #[true, true, true, false, false, false, false, false, false, false] rfl rfl (any_of HT_.out (by kernel_rfl)) (fun _ _ _ h => h) (Or.inl ⟨by rfl, ?_⟩) ?_ ?_
                rotate_left
                · intro w'
                  go_simp
                  with_reducible rfl
                rotate_left
                · simp only [Act.put, List.setIfInBounds_toArray, List.set_cons_zero, List.set_cons_succ, i64_w, i32_w]
                  rfl
                refine pure_ (i := 4) (N := some 21) (v := ?_) (a' := ?_) #[true, true, true, false, true, false, false, false, false, false] rfl rfl (any_of HT_.out (by kernel_rfl)) (fun _ _ _ h => h) (Or.inl ⟨by rfl, ?_⟩) ?_ ?_
                rotate_left
                · intro w'
                  go_simp
                  with_reducible rfl
                rotate_left
                · simp only [Act.put, List.setIfInBounds_toArray, List.set_cons_zero, List.set_cons_succ, i64_w, i32_w]
                  rfl
                refine pure_ (i := 5) (N := some 22) (v := ?_) (a' := ?_) #[true, true, true, false, true, true, false, false, false, false] rfl rfl (any_of HT_.out (by kernel_rfl)) (fun _ _ _ h => h) (Or.inl ⟨by rfl, ?_⟩) ?_ ?_
                rotate_left
                · intro w'
                  go_simp
                  with_reducible rfl
                rotate_left
                · simp only [Act.put, List.setIfInBounds_toArray, List.set_cons_zero, List.set_cons_succ, i64_w, i32_w]
                  rfl
                refine pure_ (i := 6) (N := some 23) (v := ?_) (a' := ?_) #[true, true, true, false, true, true, true, false, false, false] rfl rfl (any_of HT_.out (by kernel_rfl)) (fun _ _ _ h => h) (Or.inl ⟨by rfl, ?_⟩) ?_ ?_
                rotate_left
                · intro w'
                  go_simp
                  with_reducible rfl
                rotate_left
                · simp only [Act.put, List.setIfInBounds_toArray, List.set_cons_zero, List.set_cons_succ, i64_w, i32_w]
                  rfl
                refine take_ (i := 3) (N := some 20) (v := ?_) (a' := ?_) #[true, true, true, true, true, true, true, false, false, false] rfl rfl (take_ofW HT_.out HW_.out (by kernel_rfl)) (fun _ _ _ h => h) (Or.inl ⟨by rfl, ?_⟩) hHeld ?_ ?_
                rotate_left
                · rintro w' ⟨s0, s1, s2, s3, s4, s5, s6, s7, s8, s9⟩
                  go_simp
                  with_reducible rfl
                rotate_left
                · simp only [Act.put, List.setIfInBounds_toArray, List.set_cons_zero, List.set_cons_succ, i64_w, i32_w]
                  rfl
                refine take_ (i := 7) (N := some 24) (v := ?_) (a' := ?_) #[true, true, true, true, true, true, true, true, false, false] rfl rfl (take_ofW HT_.out HW_.out (by kernel_rfl)) (fun _ _ _ h => h) (Or.inl ⟨by rfl, ?_⟩) hHeld ?_ ?_
                rotate_left
                · rintro w' ⟨s0, s1, s2, s3, s4, s5, s6, s7, s8, s9⟩
                  go_simp
                  with_reducible rfl
                rotate_left
                · simp only [Act.put, List.setIfInBounds_toArray, List.set_cons_zero, List.set_cons_succ, i64_w, i32_w]
                  rfl
                refine one_ (i := 8) (N := some 25) #[true, true, true, true, true, true, true, true, true, false] rfl rfl (one_of HT_.out (by kernel_rfl)) (by decide) (fun K hK => ?_)
                refine goes_ Try.func69 (by kernel_rfl) rfl #[.agg #[.int .i64 ((rd_T26 l0 x5_1).f0.f0), .int .i64 ((rd_T26 l0 x5_1).f0.f1), .int .i64 ((rd_T26 l0 x5_1).f0.f2), .int .i64 ((rd_T26 l0 x5_1).f0.f3), .slice A311_4 ((rd_T26 l0 x5_1).f1).length c311_4], .agg #[.int .i64 ((rd_T26 l1 x5_1).f0.f0), .int .i64 ((rd_T26 l1 x5_1).f0.f1), .int .i64 ((rd_T26 l1 x5_1).f0.f2), .int .i64 ((rd_T26 l1 x5_1).f0.f3), .slice A312_4 ((rd_T26 l1 x5_1).f1).length c312_4]] (by rfl) rfl rfl (by (try simp only [List.map_toArray, List.map_cons, List.map_nil]); first | done | rfl | (simp only [List.length_drop, List.length_take]; rfl)) ?_
                with_reducible refine (waveletref02_Same.calls k1 ((rd_T26 l0 x5_1).f0.f0) ((rd_T26 l0 x5_1).f0.f1) ((rd_T26 l0 x5_1).f0.f2) ((rd_T26 l0 x5_1).f0.f3) _ _ ((rd_T26 l0 x5_1).f1) ((rd_T26 l1 x5_1).f0.f0) ((rd_T26 l1 x5_1).f0.f1) ((rd_T26 l1 x5_1).f0.f2) ((rd_T26 l1 x5_1).f0.f3) _ _ ((rd_T26 l1 x5_1).f1) true _ ?side1 ?side2 ?side3 ?side4 A7.out).mono ?_
                (case side1 => repeat (first | exact (Kd.C_below HR311_4.out HB.out) | (with_reducible refine Kd.C_alloc ?_ _) | (with_reducible refine Kd.C_drewN ?_ _) | (with_reducible refine Kd.C_drew ?_)))
                (case side2 => exact HC311_4.out)
                (case side3 => repeat (first | exact (Kd.C_below HR312_4.out HB.out) | (with_reducible refine Kd.C_alloc ?_ _) | (with_reducible refine Kd.C_drewN ?_ _) | (with_reducible refine Kd.C_drew ?_)))
                (case side4 => exact HC312_4.out)
                rintro e w10 ⟨rfl, hb⟩
                refine ⟨_, rfl, ?_⟩
                have n0_ := Aside0.mk (below_step (by repeat (first | (with_reducible first | exact HB.out | apply below_alloc | apply pw_below_drewN | apply below_drew1) | exact HB.out)) hb)
                clear HB
                have HB := n0_
                clear n0_
                (try clear hb)
                (try clear hb2)
                (try clear hk)
                (try clear hi)
                refine hK.out _ _ ⟨((HB.out.cell (World.block_lt_of_cell? w _ hw311_0)).trans hw311_0), ((HB.out.cell (World.block_lt_of_cell? w _ hw311_1)).trans hw311_1), ((HB.out.cell (World.block_lt_of_cell? w _ hw311_2)).trans hw311_2), ((HB.out.cell (World.block_lt_of_cell? w _ hw311_3)).trans hw311_3), ((HB.out.cell (World.block_lt_of_cell? w _ hw311_4)).trans hw311_4), ((HB.out.cell (World.block_lt_of_cell? w _ hw312_0)).trans hw312_0), ((HB.out.cell (World.block_lt_of_cell? w _ hw312_1)).trans hw312_1), ((HB.out.cell (World.block_lt_of_cell? w _ hw312_2)).trans hw312_2), ((HB.out.cell (World.block_lt_of_cell? w _ hw312_3)).trans hw312_3), ((HB.out.cell (World.block_lt_of_cell? w _ hw312_4)).trans hw312_4)⟩ (fun hHeld => ?_)
                clear hK K
                refine norm_ (a' := ?_) ?_ ?_
                rotate_left
                · show Act.put _ (some 25) _ = _
                  simp only [Act.put, List.setIfInBounds_toArray, List.set_cons_zero, List.set_cons_succ, i64_w, i32_w]
                  rfl
                refine pure_ (i := 9) (N := some 26) (v := ?_) (a' := ?_) #[true, true, true, true, true, true, true, true, true, true] rfl rfl (any_of HT_.out (by kernel_rfl)) (fun _ _ _ h => h) (Or.inl ⟨by rfl, ?_⟩) ?_ ?_
                rotate_left
                · intro w'
                  go_simp
                  with_reducible rfl
                rotate_left
                · simp only [Act.put, List.setIfInBounds_toArray, List.set_cons_zero, List.set_cons_succ, i64_w, i32_w]
                  rfl
                refine done_ (done_of HT_.out (by kernel_rfl)) ?_
                try go_wp2
                go_roundg k1
                case measure => have := HK1.out; omega
                case rel => exact ⟨(wrap64 (x5_1 + 1)), (by first | rfl | (simp; done) | (simp [*]; done)), H', ⟨by have := HK1.out; omega⟩, ⟨by repeat (first | (with_reducible first | exact HB.out | apply below_alloc | apply pw_below_drewN | apply below_drew1) | exact HB.out)⟩⟩
              · replace c8 := Bool.eq_false_iff.mpr c8
                subst c8
                have H1 : (some false) = some r := by rw [if_neg (show ¬ (false = true) by decide)] at H; exact H
                clear H
                have H := H1
                clear H1
                obtain rfl := Option.some.inj H
                try go_wp2
                have n0_ := Aside0.mk (below_drew1 HB.out)
                clear HB
                have HB := n0_
                clear n0_
                have p311 : 0 ≤ (x5_1 : Int) := of_decide_eq_true (by first | (with_reducible assumption) | assumption)
                have q311 : x5_1 < (l0.length : Int) := of_decide_eq_true (by first | (with_reducible assumption) | assumption)
                obtain ⟨ad311, A311_4, c311_4, e311, hx311_0, hx311_1, hx311_2, hx311_3, hx311_4, hl311_4, hi311_4⟩ := at_T26 HR0.out x5_1 p311 q311
                have hw311_4 := hx311_4
                have hw311_3 := hx311_3
                have hw311_2 := hx311_2
                have hw311_1 := hx311_1
                have hw311_0 := hx311_0
                cases e311
                replace hx311_0 := (HB.out.cell (World.block_lt_of_cell? w _ hx311_0)).trans hx311_0
                replace hx311_1 := (HB.out.cell (World.block_lt_of_cell? w _ hx311_1)).trans hx311_1
                replace hx311_2 := (HB.out.cell (World.block_lt_of_cell? w _ hx311_2)).trans hx311_2
                replace hx311_3 := (HB.out.cell (World.block_lt_of_cell? w _ hx311_3)).trans hx311_3
                replace hx311_4 := (HB.out.cell (World.block_lt_of_cell? w _ hx311_4)).trans hx311_4
                have HR311_4 := Aside0.mk hi311_4
                have HC311_4 := Aside0.mk hl311_4
                clear hi311_4 hl311_4
                replace p311 := eq_true p311
                replace q311 := eq_true q311
                have p312 : 0 ≤ (x5_1 : Int) := of_decide_eq_true (by first | (with_reducible assumption) | assumption)
                have q312 : x5_1 < (l1.length : Int) := of_decide_eq_true (by first | (with_reducible assumption) | assumption)
                obtain ⟨ad312, A312_4, c312_4, e312, hx312_0, hx312_1, hx312_2, hx312_3, hx312_4, hl312_4, hi312_4⟩ := at_T26 HR1.out x5_1 p312 q312
                have hw312_4 := hx312_4
                have hw312_3 := hx312_3
                have hw312_2 := hx312_2
                have hw312_1 := hx312_1
                have hw312_0 := hx312_0
                cases e312
                replace hx312_0 := (HB.out.cell (World.block_lt_of_cell? w _ hx312_0)).trans hx312_0
                replace hx312_1 := (HB.out.cell (World.block_lt_of_cell? w _ hx312_1)).trans hx312_1
                replace hx312_2 := (HB.out.cell (World.block_lt_of_cell? w _ hx312_2)).trans hx312_2
                replace hx312_3 := (HB.out.cell (World.block_lt_of_cell? w _ hx312_3)).trans hx312_3
                replace hx312_4 := (HB.out.cell (World.block_lt_of_cell? w _ hx312_4)).trans hx312_4
                have HR312_4 := Aside0.mk hi312_4
                have HC312_4 := Aside0.mk hl312_4
                clear hi312_4 hl312_4
                replace p312 := eq_true p312
                replace q312 := eq_true q312
                refine start_ (n := 10) (S := fun w' => w'.cell? (ad311.add ((x5_1).toNat * 5)) = some (.int .i64 ((rd_T26 l0 x5_1).f0.f0)) ∧ w'.cell? ⟨(ad311.add ((x5_1).toNat * 5)).block, (ad311.add ((x5_1).toNat * 5)).off + 1, none⟩ = some (.int .i64 ((rd_T26 l0 x5_1).f0.f1)) ∧ w'.cell? ⟨(ad311.add ((x5_1).toNat * 5)).block, (ad311.add ((x5_1).toNat * 5)).off + 2, none⟩ = some (.int .i64 ((rd_T26 l0 x5_1).f0.f2)) ∧ w'.cell? ⟨(ad311.add ((x5_1).toNat * 5)).block, (ad311.add ((x5_1).toNat * 5)).off + 3, none⟩ = some (.int .i64 ((rd_T26 l0 x5_1).f0.f3)) ∧ w'.cell? ⟨(ad311.add ((x5_1).toNat * 5)).block, (ad311.add ((x5_1).toNat * 5)).off + 4, none⟩ = some (.slice A311_4 ((rd_T26 l0 x5_1).f1).length c311_4) ∧ w'.cell? (ad312.add ((x5_1).toNat * 5)) = some (.int .i64 ((rd_T26 l1 x5_1).f0.f0)) ∧ w'.cell? ⟨(ad312.add ((x5_1).toNat * 5)).block, (ad312.add ((x5_1).toNat * 5)).off + 1, none⟩ = some (.int .i64 ((rd_T26 l1 x5_1).f0.f1)) ∧ w'.cell? ⟨(ad312.add ((x5_1).toNat * 5)).block, (ad312.add ((x5_1).toNat * 5)).off + 2, none⟩ = some (.int .i64 ((rd_T26 l1 x5_1).f0.f2)) ∧ w'.cell? ⟨(ad312.add ((x5_1).toNat * 5)).block, (ad312.add ((x5_1).toNat * 5)).off + 3, none⟩ = some (.int .i64 ((rd_T26 l1 x5_1).f0.f3)) ∧ w'.cell? ⟨(ad312.add ((x5_1).toNat * 5)).block, (ad312.add ((x5_1).toNat * 5)).off + 4, none⟩ = some (.slice A312_4 ((rd_T26 l1 x5_1).f1).length c312_4)) (ds := []) #[false, false, false, false, false, false, false, false, false, false] (by kernel_rfl) rfl rfl ⟨((HB.out.cell (World.block_lt_of_cell? w _ hw311_0)).trans hw311_0), ((HB.out.cell (World.block_lt_of_cell? w _ hw311_1)).trans hw311_1), ((HB.out.cell (World.block_lt_of_cell? w _ hw311_2)).trans hw311_2), ((HB.out.cell (World.block_lt_of_cell? w _ hw311_3)).trans hw311_3), ((HB.out.cell (World.block_lt_of_cell? w _ hw311_4)).trans hw311_4), ((HB.out.cell (World.block_lt_of_cell? w _ hw312_0)).trans hw312_0), ((HB.out.cell (World.block_lt_of_cell? w _ hw312_1)).trans hw312_1), ((HB.out.cell (World.block_lt_of_cell? w _ hw312_2)).trans hw312_2), ((HB.out.cell (World.block_lt_of_cell? w _ hw312_3)).trans hw312_3), ((HB.out.cell (World.block_lt_of_cell? w _ hw312_4)).trans hw312_4)⟩ (fun hHeld => ?_); refine with_tabW waveletref02_SameAll.tab6 waveletref02_SameAll.bits6 (fun HT_ HW_ => ?_)
                generalize wr.drew = w11 at HB HR311_4 HR312_4 hx311_0 hx311_1 hx311_2 hx311_3 hx311_4 hx312_0 hx312_1 hx312_2 hx312_3 hx312_4 hHeld ⊢
                refine pure_ (i := 0) (N := some 17) (v := ?_) (a' := ?_) #[true, false, false, false, false, false, false, false, false, false] rfl rfl (any_of HT_.out (by kernel_rfl)) (fun _ _ _ h => h) (Or.inl ⟨by rfl, ?_⟩) ?_ ?_
                rotate_left
                · intro w'
                  go_simp
                  with_reducible rfl
                rotate_left
                · simp only [Act.put, List.setIfInBounds_toArray, List.set_cons_zero, List.set_cons_succ, i64_w, i32_w]
                  rfl
                refine pure_ (i := 1) (N := some 18) (v := ?_) (a' := ?_) #[true, true, false, false, false, false, false, false, false, false] rfl rfl (any_of HT_.out (by kernel_rfl)) (fun _ _ _ h => h) (Or.inl ⟨by rfl, ?_⟩) ?_ ?_
                rotate_left
                · intro w'
                  go_simp
                  with_reducible rfl
                rotate_left
                · simp only [Act.put, List.setIfInBounds_toArray, List.set_cons_zero, List.set_cons_succ, i64_w, i32_w]
                  rfl
                refine pure_ (i := 2) (N := some 19) (v := ?_) (a' := ?_) #[true, true, true, false, false, false, false, false, false, false] rfl rfl (any_of HT_.out (by kernel_rfl)) (fun _ _ _ h => h) (Or.inl ⟨by rfl, ?_⟩) ?_ ?_
                rotate_left
                · intro w'
                  go_simp
                  with_reducible rfl
                rotate_left
                · simp only [Act.put, List.setIfInBounds_toArray, List.set_cons_zero, List.set_cons_succ, i64_w, i32_w]
                  rfl
                refine pure_ (i := 4) (N := some 21) (v := ?_) (a' := ?_) #[true, true, true, false, true, false, false, false, false, false] rfl rfl (any_of HT_.out (by kernel_rfl)) (fun _ _ _ h => h) (Or.inl ⟨by rfl, ?_⟩) ?_ ?_
                rotate_left
                · intro w'
                  go_simp
                  with_reducible rfl
                rotate_left
                · simp only [Act.put, List.setIfInBounds_toArray, List.set_cons_zero, List.set_cons_succ, i64_w, i32_w]
                  rfl
                refine pure_ (i := 5) (N := some 22) (v := ?_) (a' := ?_) #[true, true, true, false, true, true, false, false, false, false] rfl rfl (any_of HT_.out (by kernel_rfl)) (fun _ _ _ h => h) (Or.inl ⟨by rfl, ?_⟩) ?_ ?_
                rotate_left
                · intro w'
                  go_simp
                  with_reducible rfl
                rotate_left
                · simp only [Act.put, List.setIfInBounds_toArray, List.set_cons_zero, List.set_cons_succ, i64_w, i32_w]
                  rfl
                refine pure_ (i := 6) (N := some 23) (v := ?_) (a' := ?_) #[true, true, true, false, true, true, true, false, false, false] rfl rfl (any_of HT_.out (by kernel_rfl)) (fun _ _ _ h => h) (Or.inl ⟨by rfl, ?_⟩) ?_ ?_
                rotate_left
                · intro w'
                  go_simp
                  with_reducible rfl
                rotate_left
                · simp only [Act.put, List.setIfInBounds_toArray, List.set_cons_zero, List.set_cons_succ, i64_w, i32_w]
                  rfl
                refine take_ (i := 3) (N := some 20) (v := ?_) (a' := ?_) #[true, true, true, true, true, true, true, false, false, false] rfl rfl (take_ofW HT_.out HW_.out (by kernel_rfl)) (fun _ _ _ h => h) (Or.inl ⟨by rfl, ?_⟩) hHeld ?_ ?_
                rotate_left
                · rintro w' ⟨s0, s1, s2, s3, s4, s5, s6, s7, s8, s9⟩
                  go_simp
                  with_reducible rfl
                rotate_left
                · simp only [Act.put, List.setIfInBounds_toArray, List.set_cons_zero, List.set_cons_succ, i64_w, i32_w]
                  rfl
                refine take_ (i := 7) (N := some 24) (v := ?_) (a' := ?_) #[true, true, true, true, true, true, true, true, false, false] rfl rfl (take_ofW HT_.out HW_.out (by kernel_rfl)) (fun _ _ _ h => h) (Or.inl ⟨by rfl, ?_⟩) hHeld ?_ ?_
                rotate_left
                · rintro w' ⟨s0, s1, s2, s3, s4, s5, s6, s7, s8, s9⟩
                  go_simp
                  with_reducible rfl
                rotate_left
                · simp only [Act.put, List.setIfInBounds_toArray, List.set_cons_zero, List.set_cons_succ, i64_w, i32_w]
                  rfl
                refine one_ (i := 8) (N := some 25) #[true, true, true, true, true, true, true, true, true, false] rfl rfl (one_of HT_.out (by kernel_rfl)) (by decide) (fun K hK => ?_)
                refine goes_ Try.func69 (by kernel_rfl) rfl #[.agg #[.int .i64 ((rd_T26 l0 x5_1).f0.f0), .int .i64 ((rd_T26 l0 x5_1).f0.f1), .int .i64 ((rd_T26 l0 x5_1).f0.f2), .int .i64 ((rd_T26 l0 x5_1).f0.f3), .slice A311_4 ((rd_T26 l0 x5_1).f1).length c311_4], .agg #[.int .i64 ((rd_T26 l1 x5_1).f0.f0), .int .i64 ((rd_T26 l1 x5_1).f0.f1), .int .i64 ((rd_T26 l1 x5_1).f0.f2), .int .i64 ((rd_T26 l1 x5_1).f0.f3), .slice A312_4 ((rd_T26 l1 x5_1).f1).length c312_4]] (by rfl) rfl rfl (by (try simp only [List.map_toArray, List.map_cons, List.map_nil]); first | done | rfl | (simp only [List.length_drop, List.length_take]; rfl)) ?_
                with_reducible refine (waveletref02_Same.calls k1 ((rd_T26 l0 x5_1).f0.f0) ((rd_T26 l0 x5_1).f0.f1) ((rd_T26 l0 x5_1).f0.f2) ((rd_T26 l0 x5_1).f0.f3) _ _ ((rd_T26 l0 x5_1).f1) ((rd_T26 l1 x5_1).f0.f0) ((rd_T26 l1 x5_1).f0.f1) ((rd_T26 l1 x5_1).f0.f2) ((rd_T26 l1 x5_1).f0.f3) _ _ ((rd_T26 l1 x5_1).f1) false _ ?side1 ?side2 ?side3 ?side4 A7.out).mono ?_
                (case side1 => repeat (first | exact (Kd.C_below HR311_4.out HB.out) | (with_reducible refine Kd.C_alloc ?_ _) | (with_reducible refine Kd.C_drewN ?_ _) | (with_reducible refine Kd.C_drew ?_)))
                (case side2 => exact HC311_4.out)
                (case side3 => repeat (first | exact (Kd.C_below HR312_4.out HB.out) | (with_reducible refine Kd.C_alloc ?_ _) | (with_reducible refine Kd.C_drewN ?_ _) | (with_reducible refine Kd.C_drew ?_)))
                (case side4 => exact HC312_4.out)
                rintro e w12 ⟨rfl, hb⟩
                refine ⟨_, rfl, ?_⟩
                have n0_ := Aside0.mk (below_step (by repeat (first | (with_reducible first | exact HB.out | apply below_alloc | apply pw_below_drewN | apply below_drew1) | exact HB.out)) hb)
                clear HB
                have HB := n0_
                clear n0_
                (try clear hb)
                (try clear hb2)
                (try clear hk)
                (try clear hi)
                refine hK.out _ _ ⟨((HB.out.cell (World.block_lt_of_cell? w _ hw311_0)).trans hw311_0), ((HB.out.cell (World.block_lt_of_cell? w _ hw311_1)).trans hw311_1), ((HB.out.cell (World.block_lt_of_cell? w _ hw311_2)).trans hw311_2), ((HB.out.cell (World.block_lt_of_cell? w _ hw311_3)).trans hw311_3), ((HB.out.cell (World.block_lt_of_cell? w _ hw311_4)).trans hw311_4), ((HB.out.cell (World.block_lt_of_cell? w _ hw312_0)).trans hw312_0), ((HB.out.cell (World.block_lt_of_cell? w _ hw312_1)).trans hw312_1), ((HB.out.cell (World.block_lt_of_cell? w _ hw312_2)).trans hw312_2), ((HB.out.cell (World.block_lt_of_cell? w _ hw312_3)).trans hw312_3), ((HB.out.cell (World.block_lt_of_cell? w _ hw312_4)).trans hw312_4)⟩ (fun hHeld => ?_)
                clear hK K
                refine norm_ (a' := ?_) ?_ ?_
                rotate_left
                · show Act.put _ (some 25) _ = _
                  simp only [Act.put, List.setIfInBounds_toArray, List.set_cons_zero, List.set_cons_succ, i64_w, i32_w]
                  rfl
                refine pure_ (i := 9) (N := some 26) (v := ?_) (a' := ?_) #[true, true, true, true, true, true, true, true, true, true] rfl rfl (any_of HT_.out (by kernel_rfl)) (fun _ _ _ h => h) (Or.inl ⟨by rfl, ?_⟩) ?_ ?_
                rotate_left
                · intro w'
                  go_simp
                  with_reducible rfl
                rotate_left
                · simp only [Act.put, List.setIfInBounds_toArray, List.set_cons_zero, List.set_cons_succ, i64_w, i32_w]
                  rfl
                refine done_ (done_of HT_.out (by kernel_rfl)) ?_
                try go_wp2
                go_ret
                exact ⟨by first | rfl | (simp [errW_none, errW_some] <;> rfl) | (simp [*, errW_none, errW_some] <;> rfl), by repeat (first | (with_reducible first | exact HB.out | apply below_alloc | apply pw_below_drewN | apply below_drew1) | exact HB.out)⟩
            · rw [if_neg c6] at H
              exact absurd H (by simp)
          · rw [if_neg c5] at H
            exact absurd H (by simp)
        · rw [if_neg c4] at H
          have c4b0 : decide (x5_1 < (l0.length : Int)) = false := decide_eq_false c4
          clear c4
          obtain rfl := Option.some.inj H
          go_wp2
          go_ret
          exact ⟨by first | rfl | (simp [errW_none, errW_some] <;> rfl) | (simp [*, errW_none, errW_some] <;> rfl), by repeat (first | (with_reducible first | exact HB.out | apply below_alloc | apply pw_below_drewN | apply below_drew1) | exact HB.out)⟩
  · rw [if_neg c3] at H
    have c3b0 : ((l0.length : Int) == (l1.length : Int)) = false := beq_eq_false_iff_ne.mpr c3
    have c3b1 : ((l0.length : Int) != (l1.length : Int)) = true := bne_iff_ne.mpr c3
    have c3b2 : (l0.length == l1.length) = false := by first | simpa using c3 | (simp at c3 ⊢; omega)
    obtain rfl := Option.some.inj H
    go_enter Try.func44, Try.ntmps44
    go_wp2
    go_ret
    exact ⟨by first | rfl | (simp [errW_none, errW_some] <;> rfl) | (simp [*, errW_none, errW_some] <;> rfl), by repeat (first | (with_reducible first | exact HB.out | apply below_alloc | apply pw_below_drewN | apply below_drew1) | exact HB.out)⟩

end Go.Proofs.Ytcnpekpgghppnaa.Q

namespace Go.Proofs.Ytcnpekpgghppnaa.Q
open Go.RowKit Go.Proofs.YtcnpekpgghppnaaW.PrintWords Go.Proofs.YtcnpekpgghppnaaW.PrintLast Go.Proofs.YtcnpekpgghppnaaW.PrintMore
attribute [local go_sem] max2_int min2_int max_two min_two max_three min_three max_four min_four   -- for this text's walks alone
set_option linter.unusedVariables false
set_option linter.unusedSimpArgs false

/-! ### wavelettop_samePlanes: function 18 -/
def wavelettop_samePlanes.f (k : Nat) (l0 : List (S26)) (l1 : List (S26)) : Option (Bool) := (waveletref02_SameAll.f k l0 l1).bind fun t314 => (some t314)
theorem wavelettop_samePlanes.mono : ∀ a0 a1 k, LeO (wavelettop_samePlanes.f k a0 a1) (wavelettop_samePlanes.f (k + 1) a0 a1) := by
  intro a0 a1 k
  unfold wavelettop_samePlanes.f
  repeat' first
      | (with_reducible exact waveletref02_SameAll.mono _ _ _)
      | (with_reducible exact LeO.refl _)
      | (with_reducible exact LeO.none _)
      | (with_reducible refine LeO.ite ?_ ?_)
      | (with_reducible refine LeO.bind ?_ (fun _ => ?_))
      | exact waveletref02_SameAll.mono _ _ _
      | exact LeO.none _
      | refine LeO.ite ?_ ?_
      | refine LeO.bind ?_ (fun _ => ?_)
set_option maxHeartbeats 8000000 in
set_option maxRecDepth 100000 in
theorem wavelettop_samePlanes.calls (k : Nat) (A0 : Option Addr) (c0 : Nat) (l0 : List (S26)) (A1 : Option Addr) (c1 : Nat) (l1 : List (S26)) (r : Bool) (w : World) (hr0 : Kd.C k26 w A0 l0.length l0) (hc0 : l0.length ≤ c0) (hr1 : Kd.C k26 w A1 l1.length l1) (hc1 : l1.length ≤ c1) (h : wavelettop_samePlanes.f k l0 l1 = some r) :
    Calls Try.prog 18 #[.slice A0 l0.length c0, .slice A1 l1.length c1] w fun e w' => e = .returned (.bool r) ∧ Below w.heap.size w w' := by
  have HR0 := Aside0.mk hr0
  have HC0 := Aside0.mk hc0
  clear hr0 hc0
  have HR1 := Aside0.mk hr1
  have HC1 := Aside0.mk hc1
  clear hr1 hc1
  have HB := Aside0.mk (Below.refl w.heap.size w)
  have H : ((waveletref02_SameAll.f k l0 l1).bind fun t314 => (some t314)) = some r := h
  clear h
  replace H := Option.bind_eq_some_iff.mp H
  obtain ⟨t314, A30, H⟩ := H
  replace H : (some t314) = some r := H
  have A3 := Aside0.mk A30
  clear A30
  obtain rfl := Option.some.inj H
  go_enter Try.func18, Try.ntmps18
  go_wp2_with (first | ((with_reducible refine gate_callee (f := 44) rfl ?_); refine goesL_ (some 7) rfl rfl Try.func44 (by kernel_rfl) rfl #[.slice A0 l0.length c0, .slice A1 l1.length c1] rfl (by (try simp only [List.map_toArray, List.map_cons, List.map_nil]); first | done | rfl | (simp only [List.length_drop, List.length_take]; rfl)) ?_; (with_reducible refine (waveletref02_SameAll.calls k _ _ l0 _ _ l1 t314 _ ?side1 ?side2 ?side3 ?side4 A3.out).mono ?_); (case side1 => repeat (first | exact HR0.out | (with_reducible refine Kd.C_alloc ?_ _) | (with_reducible refine Kd.C_drewN ?_ _) | (with_reducible refine Kd.C_drew ?_))); (case side2 => exact HC0.out); (case side3 => repeat (first | exact HR1.out | (with_reducible refine Kd.C_alloc ?_ _) | (with_reducible refine Kd.C_drewN ?_ _) | (with_reducible refine Kd.C_drew ?_))); (case side4 => exact HC1.out); rintro e w4 ⟨rfl, hb⟩; refine ⟨_, rfl, ?_⟩; have n0_ := Aside0.mk (below_step (by repeat (first | (with_reducible first | exact HB.out | apply below_alloc | apply pw_below_drewN | apply below_drew1) | exact HB.out)) hb); clear HB; have HB := n0_; clear n0_; (try clear hb); (try clear hb2); (try clear hk); (try clear hi)))
  go_ret
  exact ⟨by first | rfl | (simp [errW_none, errW_some] <;> rfl) | (simp [*, errW_none, errW_some] <;> rfl), by repeat (first | (with_reducible first | exact HB.out | apply below_alloc | apply pw_below_drewN | apply below_drew1) | exact HB.out)⟩

end Go.Proofs.Ytcnpekpgghppnaa.Q

/- The plain law of a plane: its four subbands, and the plane again. -/
namespace Go.Proofs.Ytcnpekpgghppnaa.Q
open Go.RowKit Go.Proofs.YtcnpekpgghppnaaW.PrintWords Go.Proofs.YtcnpekpgghppnaaW.PrintLast Go.Proofs.YtcnpekpgghppnaaW.PrintMore
set_option linter.unusedVariables false
set_option linter.unusedSimpArgs false

theorem PV.nat {x0 y0 x1 y1 : Int} {D : List Int} (h : PV x0 y0 x1 y1 D) : ∃ w m : Nat, x1 = x0 + (w : Int) ∧ y1 = y0 + (m : Int) ∧ D.length = m * w ∧ m * w ≤ 1048576 := by
  obtain ⟨⟨a1, a2, a3⟩, ⟨b1, b2, b3⟩, h3, h4⟩ := h
  obtain ⟨w, hw⟩ := Int.eq_ofNat_of_zero_le (show 0 ≤ x1 - x0 by omega)
  obtain ⟨m, hm⟩ := Int.eq_ofNat_of_zero_le (show 0 ≤ y1 - y0 by omega)
  rw [hw, hm, ← Int.natCast_mul, Nat.mul_comm] at h3 h4
  exact ⟨w, m, by omega, by omega, by omega, by omega⟩
theorem PV.of_nat {x0 y0 x1 y1 : Int} {D : List Int} {w m : Nat} (hx : 0 ≤ x0 ∧ x1 ≤ 4096) (hy : 0 ≤ y0 ∧ y1 ≤ 4096) (hw : x1 = x0 + (w : Int)) (hm : y1 = y0 + (m : Int)) (hD : D.length = m * w) (hl : m * w ≤ 1048576) : PV x0 y0 x1 y1 D := by
  have e : (x1 - x0) * (y1 - y0) = ((m * w : Nat) : Int) := by rw [show x1 - x0 = (w : Int) by omega, show y1 - y0 = (m : Int) by omega, Nat.mul_comm, Int.natCast_mul]
  refine ⟨by omega, by omega, ?_, ?_⟩
  · rw [e]; omega
  · rw [e, hD]
theorem rv_of {x0 y0 x1 y1 : Int} (hx : 0 ≤ x0 ∧ x0 ≤ x1 ∧ x1 ≤ 4096) (hy : 0 ≤ y0 ∧ y0 ≤ y1 ∧ y1 ≤ 4096) : rect_Valid.f x0 y0 x1 y1 = some true := by
  unfold rect_Valid.f
  rw [if_pos hx.1, if_pos hx.2.1, if_pos hx.2.2, if_pos hy.1, if_pos hy.2.1, decide_eq_true hy.2.2]
theorem ra_of {x0 y0 x1 y1 : Int} {w m : Nat} (hx : 0 ≤ x0 ∧ x1 ≤ 4096) (hy : 0 ≤ y0 ∧ y1 ≤ 4096) (hw : x1 = x0 + (w : Int)) (hm : y1 = y0 + (m : Int)) (hl : m * w ≤ 1048576) : rect_Area.f x0 y0 x1 y1 = some ((m * w : Nat) : Int) := by
  unfold rect_Area.f
  rw [rv_of (by omega) (by omega)]
  simp only [Option.bind_some, if_true]
  rw [show wrap64 (x1 - x0) = (w : Int) by rw [wid (by omega) (by omega)]; omega, show wrap64 (y1 - y0) = (m : Int) by rw [wid (by omega) (by omega)]; omega, ← Int.natCast_mul, Nat.mul_comm, wid (by omega) (by omega)]
theorem empty_of {x0 y0 x1 y1 : Int} {w m : Nat} (hx : 0 ≤ x0 ∧ x1 ≤ 4096) (hy : 0 ≤ y0 ∧ y1 ≤ 4096) (hw : x1 = x0 + (w : Int)) (hm : y1 = y0 + (m : Int)) (hl : m * w ≤ 1048576) : dwt_empty.f x0 y0 x1 y1 = some (x0, y0, x1, y1, List.replicate (m * w) 0) := by
  unfold dwt_empty.f
  rw [ra_of hx hy hw hm hl, Option.bind_some, if_pos (by omega), Int.toNat_natCast, if_pos (by omega)]
theorem bd_cell {w h : Nat} {D : List Int} {b : Int} (hD : D.length = h * w) (H : ∀ i j : Nat, i < h → j < w → -b ≤ cell w D i j ∧ cell w D i j ≤ b) : Bd b D := by
  refine Bd.of_rd fun p hp => ?_
  rw [hD] at hp
  have hw : 0 < w := by
    rcases Nat.eq_zero_or_pos w with e | e
    · subst e; simp at hp
    · exact e
  have h1 : p / w < h := Nat.div_lt_of_lt_mul (by rwa [Nat.mul_comm] at hp)
  have h2 := H (p / w) (p % w) h1 (Nat.mod_lt _ hw)
  unfold cell at h2
  rwa [show p / w * w + p % w = p from by rw [Nat.mul_comm]; exact Nat.div_add_mod p w] at h2
theorem cnt_of {s : Int} {n l : Nat} (h0 : 0 ≤ s) (h1 : s + n ≤ 4096) (hl : (l : Int) = (s + n + 1) / 2 - (s + 1) / 2) : cntE s (n : Int) = (l : Int) := by
  rw [cntE_eq h0 (by omega) (by omega) (by omega), hl]
theorem known_of {kk : Int} (h : 1 ≤ kk ∧ kk ≤ 3) : dwt_known.f 1 kk = some true := by
  have : kk = 1 ∨ kk = 2 ∨ kk = 3 := by omega
  rcases this with rfl | rfl | rfl <;> decide

/-- The columns of a half, there and back. -/
theorem half_ok {kk a c y0 y1 b : Int} {w m lh hh : Nat} {H : List Int} (hkk : 1 ≤ kk ∧ kk ≤ 3) (ha : 0 ≤ a ∧ c ≤ 4096) (hy : 0 ≤ y0 ∧ y1 ≤ 4096) (hw : c = a + (w : Int)) (hm : y1 = y0 + (m : Int)) (hH : H.length = m * w) (hl : m * w ≤ 1048576) (hlh : (lh : Int) = (y1 + 1) / 2 - (y0 + 1) / 2) (hhh : lh + hh = m)
    (hb1 : 1 ≤ b) (hb2 : b ≤ 17592186044416) (hb : Bd (2 * b) H) :
    ∃ G0 G2, colsF kk 5000 a c y0 H 5000 a (List.replicate (lh * w) 0) (List.replicate (hh * w) 0) = some (G0, G2) ∧ G0.length = lh * w ∧ G2.length = hh * w ∧ Bd (5 * b) G0 ∧ Bd (5 * b) G2 ∧ mcolsF kk 5000 a c y0 G0 G2 5000 a (List.replicate (m * w) 0) = some H := by
  have hx : ∀ j : Nat, ∃ p : List Int × List Int, j < w → fwdF kk 5000 y0 (colOf w m H j) = some p ∧ p.1.length = lh ∧ p.2.length = hh ∧ Bd (5 * b) p.1 ∧ Bd (5 * b) p.2 ∧ invF kk 5000 y0 p.1 p.2 = some (colOf w m H j) := by
    intro j
    by_cases hj : j < w
    · obtain ⟨lo, hi, q1, q2, q3, q4, q5, q6⟩ := fwd_ok kk y0 5000 (colOf w m H j) b hkk (by omega) (by omega) (by rw [colOf_len]; omega) (by omega) hb1 hb2 (colOf_bd hb (by omega))
      rw [colOf_len] at q2 q3
      exact ⟨(lo, hi), fun _ => ⟨q1, by show lo.length = lh; omega, by show hi.length = hh; omega, q4, q5, q6⟩⟩
    · exact ⟨([], []), fun h => absurd h hj⟩
  obtain ⟨g, hg⟩ := Classical.axiomOfChoice hx
  obtain ⟨G0, G2, r1, r2, r3, r4, r5⟩ := colsF_spec (kk := kk) (k := 5000) (w := w) (h := m) (lh := lh) (hh := hh) (x0 := a) (x1 := c) (y0 := y0) (D := H) (lo := fun j => (g j).1) (hi := fun j => (g j).2) hw (by omega) (by omega) hH hl (by omega) (by omega) (by omega) hhh (hb.mono (by omega)) (fun j hj => ⟨(hg j hj).1, (hg j hj).2.1, (hg j hj).2.2.1⟩) 5000 0 (List.replicate (lh * w) 0) (List.replicate (hh * w) 0) (by omega) (by omega) (by simp) (by simp)
  have e1 : ∀ j, j < w → colOf w lh G0 j = (g j).1 := by
    intro j hj
    refine ext_rd (by rw [colOf_len, (hg j hj).2.1]) fun i hi => ?_
    rw [colOf_len] at hi
    rw [colOf_rd hi, r4 i j hi hj, if_pos (by omega)]
  have e2 : ∀ j, j < w → colOf w hh G2 j = (g j).2 := by
    intro j hj
    refine ext_rd (by rw [colOf_len, (hg j hj).2.2.1]) fun i hi => ?_
    rw [colOf_len] at hi
    rw [colOf_rd hi, r5 i j hi hj, if_pos (by omega)]
  have B0 : Bd (5 * b) G0 := bd_cell r2 fun i j hi hj => by
    rw [r4 i j hi hj, if_pos (by omega)]
    exact (hg j hj).2.2.2.1.at_ (by omega) i
  have B2 : Bd (5 * b) G2 := bd_cell r3 fun i j hi hj => by
    rw [r5 i j hi hj, if_pos (by omega)]
    exact (hg j hj).2.2.2.2.1.at_ (by omega) i
  refine ⟨G0, G2, by simpa using r1, r2, r3, B0, B2, ?_⟩
  obtain ⟨F, t1, t2, t3⟩ := mcolsF_spec (kk := kk) (k := 5000) (w := w) (h := m) (lh := lh) (hh := hh) (x0 := a) (x1 := c) (y0 := y0) (D := G0) (D2 := G2) (z := fun j => colOf w m H j) hw (by omega) (by omega) r2 r3 hl (by omega) (by omega) (by omega) hhh (B0.mono (by omega)) (B2.mono (by omega)) (cnt_of (by omega) (by omega) (by rw [hlh, hm])) (fun j hj => ⟨by rw [e1 j hj, e2 j hj]; exact (hg j hj).2.2.2.2.2, colOf_len _ _ _ _⟩) 5000 0 (List.replicate (m * w) 0) (by omega) (by omega) (by simp)
  have : F = H := by
    refine ext_cell t2 hH fun i j hi hj => ?_
    rw [t3 i j hi hj, if_pos (by omega), colOf_rd hi]
  subst this
  simpa using t1
/-- The rows of a plane, there and back. -/
theorem rows_ok {kk x0 y0 x1 y1 b : Int} {w m lw hw : Nat} {D : List Int} (hkk : 1 ≤ kk ∧ kk ≤ 3) (hx : 0 ≤ x0 ∧ x1 ≤ 4096) (hy : 0 ≤ y0 ∧ y1 ≤ 4096) (hwx : x1 = x0 + (w : Int)) (hm : y1 = y0 + (m : Int)) (hD : D.length = m * w) (hl : m * w ≤ 1048576) (hlw : (lw : Int) = (x1 + 1) / 2 - (x0 + 1) / 2) (hhw : lw + hw = w)
    (hb1 : 1 ≤ b) (hb2 : b ≤ 17592186044416) (hb : Bd (2 * b) D) :
    ∃ H0 H1, rowsF kk 5000 x0 x1 y0 y1 D 5000 y0 [] [] = some (H0, H1) ∧ H0.length = m * lw ∧ H1.length = m * hw ∧ Bd (5 * b) H0 ∧ Bd (5 * b) H1 ∧ ∀ w0 w1 : Int, w0 = (lw : Int) → w1 = (hw : Int) → mrowsF kk 5000 w0 w1 x0 y0 y1 H0 H1 5000 y0 [] = some D := by
  have hxx : ∀ i : Nat, ∃ p : List Int × List Int, i < m → fwdF kk 5000 x0 (rowOf w D i) = some p ∧ p.1.length = lw ∧ p.2.length = hw ∧ Bd (5 * b) p.1 ∧ Bd (5 * b) p.2 ∧ invF kk 5000 x0 p.1 p.2 = some (rowOf w D i) := by
    intro i
    by_cases hi : i < m
    · have hrl := rowOf_len hD hi
      obtain ⟨lo, hi, q1, q2, q3, q4, q5, q6⟩ := fwd_ok kk x0 5000 (rowOf w D i) b hkk (by omega) (by omega) (by rw [hrl]; omega) (by omega) hb1 hb2 (rowOf_bd hb)
      rw [hrl] at q2 q3
      exact ⟨(lo, hi), fun _ => ⟨q1, by show lo.length = lw; omega, by show hi.length = hw; omega, q4, q5, q6⟩⟩
    · exact ⟨([], []), fun h => absurd h hi⟩
  obtain ⟨g, hg⟩ := Classical.axiomOfChoice hxx
  obtain ⟨H0, H1, r1, r2, r3, r4⟩ := rowsF_spec (kk := kk) (k := 5000) (w := w) (h := m) (lw := lw) (hw := hw) (x0 := x0) (x1 := x1) (y0 := y0) (y1 := y1) (D := D) (lo := fun j => (g j).1) (hi := fun j => (g j).2) hwx hm hD hl (by omega) (by omega) (by omega) hhw (hb.mono (by omega)) (fun j hj => ⟨(hg j hj).1, (hg j hj).2.1, (hg j hj).2.2.1⟩) 5000 0 [] [] (by omega) (by omega) (by simp) (by simp) (fun a ha => absurd ha (Nat.not_lt_zero a))
  have B0 : Bd (5 * b) H0 := bd_cell r2 fun i j hi hj => by
    rw [← rowOf_rd hj, (r4 i hi).1]
    exact (hg i hi).2.2.2.1.at_ (by omega) j
  have B1 : Bd (5 * b) H1 := bd_cell r3 fun i j hi hj => by
    rw [← rowOf_rd hj, (r4 i hi).2]
    exact (hg i hi).2.2.2.2.1.at_ (by omega) j
  refine ⟨H0, H1, by simpa using r1, r2, r3, B0, B1, fun w0 w1 h0 h1 => ?_⟩
  have := mrowsF_spec (kk := kk) (k := 5000) (w := w) (h := m) (lw := lw) (hw := hw) (x0 := x0) (y0 := y0) (y1 := y1) (H0 := H0) (H1 := H1) (D := D) h0 h1 hm hD r2 r3 hl (by omega) (by omega) (by omega) hhw (B0.mono (by omega)) (B1.mono (by omega)) (cnt_of (by omega) (by omega) (by rw [hlw, hwx])) (fun i hi => by rw [(r4 i hi).1, (r4 i hi).2]; exact (hg i hi).2.2.2.2.2) 5000 0 (by omega) (by omega)
  simpa using this
theorem tdiv1 {x : Int} (h0 : 0 ≤ x) (h1 : x ≤ 4096) : wrap64 (Int.tdiv (wrap64 (x + 1)) 2) = (x + 1) / 2 := by
  rw [wid (n := x + 1) (by omega) (by omega), Int.tdiv_eq_ediv_of_nonneg (by omega), wid (by omega) (by omega)]
theorem tdiv0 {x : Int} (h0 : 0 ≤ x) (h1 : x ≤ 4096) : wrap64 (Int.tdiv (wrap64 (x + 0)) 2) = x / 2 := by
  rw [wid (n := x + 0) (by omega) (by omega), Int.add_zero, Int.tdiv_eq_ediv_of_nonneg (by omega), wid (by omega) (by omega)]
theorem tdivz {x : Int} (h0 : 0 ≤ x) (h1 : x ≤ 4096) : wrap64 (Int.tdiv (wrap64 x) 2) = x / 2 := by
  rw [wid (n := x) (by omega) (by omega), Int.tdiv_eq_ediv_of_nonneg (by omega), wid (by omega) (by omega)]
theorem bands_of {x0 y0 x1 y1 : Int} (hx : 0 ≤ x0 ∧ x0 ≤ x1 ∧ x1 ≤ 4096) (hy : 0 ≤ y0 ∧ y0 ≤ y1 ∧ y1 ≤ 4096) : bandsC x0 y0 x1 y1 4 = #[.int .i64 ((x0 + 1) / 2), .int .i64 ((y0 + 1) / 2), .int .i64 ((x1 + 1) / 2), .int .i64 ((y1 + 1) / 2), .int .i64 (x0 / 2), .int .i64 ((y0 + 1) / 2), .int .i64 (x1 / 2), .int .i64 ((y1 + 1) / 2), .int .i64 ((x0 + 1) / 2), .int .i64 (y0 / 2), .int .i64 ((x1 + 1) / 2), .int .i64 (y1 / 2), .int .i64 (x0 / 2), .int .i64 (y0 / 2), .int .i64 (x1 / 2), .int .i64 (y1 / 2)] := by
  rw [bandsC.eq_def]
  simp only [tdiv1 hx.1 (show x0 ≤ 4096 by omega), tdiv1 (show 0 ≤ x1 by omega) hx.2.2, tdiv1 hy.1 (show y0 ≤ 4096 by omega), tdiv1 (show 0 ≤ y1 by omega) hy.2.2, tdiv0 hx.1 (show x0 ≤ 4096 by omega), tdiv0 (show 0 ≤ x1 by omega) hx.2.2, tdiv0 hy.1 (show y0 ≤ 4096 by omega), tdiv0 (show 0 ≤ y1 by omega) hy.2.2, tdivz hy.1 (show y0 ≤ 4096 by omega), tdivz (show 0 ≤ y1 by omega) hy.2.2]
/-- A plane's four subbands, and the plane again. -/
theorem split_ok {kk x0 y0 x1 y1 c : Int} {D : List Int} (hkk : 1 ≤ kk ∧ kk ≤ 3) (hv : PV x0 y0 x1 y1 D) (hc1 : 1 ≤ c) (hc2 : c ≤ 1099511627776) (hb : Bd (4 * c) D) :
    ∃ G0 G1 G2 G3, SplitTo kk x0 y0 x1 y1 D ((x0 + 1) / 2) (x0 / 2) ((x1 + 1) / 2) (x1 / 2) ((y0 + 1) / 2) (y0 / 2) ((y1 + 1) / 2) (y1 / 2) G0 G1 G2 G3 ∧ MergeTo kk x0 y0 x1 y1 ((x0 + 1) / 2) (x0 / 2) ((x1 + 1) / 2) (x1 / 2) ((y0 + 1) / 2) (y0 / 2) ((y1 + 1) / 2) (y1 / 2) G0 G1 G2 G3 D ∧
      (PV ((x0 + 1) / 2) ((y0 + 1) / 2) ((x1 + 1) / 2) ((y1 + 1) / 2) G0 ∧ Bd (25 * c) G0) ∧ (PV (x0 / 2) ((y0 + 1) / 2) (x1 / 2) ((y1 + 1) / 2) G1 ∧ Bd (25 * c) G1) ∧ (PV ((x0 + 1) / 2) (y0 / 2) ((x1 + 1) / 2) (y1 / 2) G2 ∧ Bd (25 * c) G2) ∧ (PV (x0 / 2) (y0 / 2) (x1 / 2) (y1 / 2) G3 ∧ Bd (25 * c) G3) := by
  obtain ⟨w, m, hw, hm, hD, hl⟩ := hv.nat
  obtain ⟨⟨p1, p2, p3⟩, ⟨q1, q2, q3⟩, _, _⟩ := id hv
  obtain ⟨lw, hlw⟩ := Int.eq_ofNat_of_zero_le (show 0 ≤ (x1 + 1) / 2 - (x0 + 1) / 2 by omega)
  obtain ⟨uw, huw⟩ := Int.eq_ofNat_of_zero_le (show 0 ≤ x1 / 2 - x0 / 2 by omega)
  obtain ⟨lh, hlh⟩ := Int.eq_ofNat_of_zero_le (show 0 ≤ (y1 + 1) / 2 - (y0 + 1) / 2 by omega)
  obtain ⟨uh, huh⟩ := Int.eq_ofNat_of_zero_le (show 0 ≤ y1 / 2 - y0 / 2 by omega)
  have sw : lw + uw = w := by omega
  have sh : lh + uh = m := by omega
  have m1 : m * lw ≤ m * w := Nat.mul_le_mul_left m (by omega)
  have m2 : m * uw ≤ m * w := Nat.mul_le_mul_left m (by omega)
  have n1 : lh * lw ≤ m * lw := Nat.mul_le_mul_right lw (by omega)
  have n2 : uh * lw ≤ m * lw := Nat.mul_le_mul_right lw (by omega)
  have n3 : lh * uw ≤ m * uw := Nat.mul_le_mul_right uw (by omega)
  have n4 : uh * uw ≤ m * uw := Nat.mul_le_mul_right uw (by omega)
  obtain ⟨H0, H1, r1, r2, r3, r4, r5, r6⟩ := rows_ok (b := 2 * c) hkk ⟨p1, p3⟩ ⟨q1, q3⟩ hw hm hD hl hlw.symm sw (by omega) (by omega) (hb.mono (by omega))
  obtain ⟨G0, G2, s1, s2, s3, s4, s5, s6⟩ := half_ok (kk := kk) (a := (x0 + 1) / 2) (c := (x1 + 1) / 2) (y0 := y0) (y1 := y1) (b := 5 * c) (w := lw) (m := m) (lh := lh) (hh := uh) (H := H0) hkk (by omega) ⟨q1, q3⟩ (by omega) hm r2 (by omega) hlh.symm sh (by omega) (by omega) (r4.mono (by omega))
  obtain ⟨G1, G3, t1, t2, t3, t4, t5, t6⟩ := half_ok (kk := kk) (a := x0 / 2) (c := x1 / 2) (y0 := y0) (y1 := y1) (b := 5 * c) (w := uw) (m := m) (lh := lh) (hh := uh) (H := H1) hkk (by omega) ⟨q1, q3⟩ (by omega) hm r3 (by omega) hlh.symm sh (by omega) (by omega) (r5.mono (by omega))
  have v0 : PV ((x0 + 1) / 2) ((y0 + 1) / 2) ((x1 + 1) / 2) ((y1 + 1) / 2) G0 := PV.of_nat (by omega) (by omega) (w := lw) (m := lh) (by omega) (by omega) s2 (by omega)
  have v1 : PV (x0 / 2) ((y0 + 1) / 2) (x1 / 2) ((y1 + 1) / 2) G1 := PV.of_nat (by omega) (by omega) (w := uw) (m := lh) (by omega) (by omega) t2 (by omega)
  have v2 : PV ((x0 + 1) / 2) (y0 / 2) ((x1 + 1) / 2) (y1 / 2) G2 := PV.of_nat (by omega) (by omega) (w := lw) (m := uh) (by omega) (by omega) s3 (by omega)
  have v3 : PV (x0 / 2) (y0 / 2) (x1 / 2) (y1 / 2) G3 := PV.of_nat (by omega) (by omega) (w := uw) (m := uh) (by omega) (by omega) t3 (by omega)
  have u0 : PV ((x0 + 1) / 2) y0 ((x1 + 1) / 2) y1 H0 := PV.of_nat (by omega) (by omega) (w := lw) (m := m) (by omega) (by omega) r2 (by omega)
  have u1 : PV (x0 / 2) y0 (x1 / 2) y1 H1 := PV.of_nat (by omega) (by omega) (w := uw) (m := m) (by omega) (by omega) r3 (by omega)
  have z0 := empty_of (x0 := (x0 + 1) / 2) (y0 := (y0 + 1) / 2) (x1 := (x1 + 1) / 2) (y1 := (y1 + 1) / 2) (w := lw) (m := lh) (by omega) (by omega) (by omega) (by omega) (by omega)
  have z1 := empty_of (x0 := x0 / 2) (y0 := (y0 + 1) / 2) (x1 := x1 / 2) (y1 := (y1 + 1) / 2) (w := uw) (m := lh) (by omega) (by omega) (by omega) (by omega) (by omega)
  have z2 := empty_of (x0 := (x0 + 1) / 2) (y0 := y0 / 2) (x1 := (x1 + 1) / 2) (y1 := y1 / 2) (w := lw) (m := uh) (by omega) (by omega) (by omega) (by omega) (by omega)
  have z3 := empty_of (x0 := x0 / 2) (y0 := y0 / 2) (x1 := x1 / 2) (y1 := y1 / 2) (w := uw) (m := uh) (by omega) (by omega) (by omega) (by omega) (by omega)
  have z4 := empty_of (x0 := (x0 + 1) / 2) (y0 := y0) (x1 := (x1 + 1) / 2) (y1 := y1) (w := lw) (m := m) (by omega) (by omega) (by omega) (by omega) (by omega)
  have z5 := empty_of (x0 := x0 / 2) (y0 := y0) (x1 := x1 / 2) (y1 := y1) (w := uw) (m := m) (by omega) (by omega) (by omega) (by omega) (by omega)
  have hbc := bands_of (x0 := x0) (y0 := y0) (x1 := x1) (y1 := y1) ⟨p1, p2, p3⟩ ⟨q1, q2, q3⟩
  have hk := known_of hkk
  have hrv := rv_of (x0 := x0) (y0 := y0) (x1 := x1) (y1 := y1) ⟨p1, p2, p3⟩ ⟨q1, q2, q3⟩
  have har := ra_of (x0 := x0) (y0 := y0) (x1 := x1) (y1 := y1) ⟨p1, p3⟩ ⟨q1, q3⟩ hw hm hl
  have ex : ∀ {b B : Int} {X : List Int}, Bd b X → b ≤ B → 0 ≤ B → B ≤ 4611686018427387904 → X.length ≤ 1048576 → dwt_exceeds.f 2000000 X B = some false := fun h h1 h2 h3 h4 => dexceeds_f (h.mono h1) h2 h3 (by omega) (by omega)
  have f0 : Bd (25 * c) G0 := s4.mono (by omega)
  have f1 : Bd (25 * c) G1 := t4.mono (by omega)
  have f2 : Bd (25 * c) G2 := s5.mono (by omega)
  have f3 : Bd (25 * c) G3 := t5.mono (by omega)
  refine ⟨G0, G1, G2, G3, ?_, ?_, ⟨v0, f0⟩, ⟨v1, f1⟩, ⟨v2, f2⟩, ⟨v3, f3⟩⟩
  · exact ⟨5000, 5000, 1, 2000000, H0, H1, _, _, _, _, hv, hkk, hk, ex hb (by omega) (by decide) (by decide) (by omega), hbc, r1, u0, u1, z0, z1, z2, z3, s1, t1⟩
  · exact ⟨5000, 5000, 1, 2000000, _, _, _, H0, H1, v0, ex f0 (by omega) (by decide) (by decide) (by omega), v1, ex f1 (by omega) (by decide) (by decide) (by omega), v2, ex f2 (by omega) (by decide) (by decide) (by omega), v3, ex f3 (by omega) (by decide) (by decide) (by omega), ⟨p1, p2, p3⟩, ⟨q1, q2, q3⟩, hrv, har, by omega, hkk, hk, hbc, z4, s6, u0, z5, t6, u1, r6 _ _ (by omega) (by omega)⟩
end Go.Proofs.Ytcnpekpgghppnaa.Q

/- The plain law of the pyramid: the subbands of a plane, and the plane again. -/
namespace Go.Proofs.Ytcnpekpgghppnaa.Q
open Go.RowKit Go.Proofs.YtcnpekpgghppnaaW.PrintWords Go.Proofs.YtcnpekpgghppnaaW.PrintLast Go.Proofs.YtcnpekpgghppnaaW.PrintMore
set_option linter.unusedVariables false
set_option linter.unusedSimpArgs false

/-- How large the numbers are, so many levels ahead. -/
def bta : Nat → Int
  | 0 => 2500000000
  | 1 => 400000000
  | 2 => 64000000
  | 3 => 10240000
  | 4 => 1638400
  | _ => 262144
theorem bta_step {n : Nat} (h : n < 5) : ∃ c, bta (n + 1) = 4 * c ∧ 25 * c = bta n ∧ 1 ≤ c ∧ c ≤ 1099511627776 := by
  have : n = 0 ∨ n = 1 ∨ n = 2 ∨ n = 3 ∨ n = 4 := by omega
  rcases this with rfl | rfl | rfl | rfl | rfl
  · exact ⟨100000000, by decide⟩
  · exact ⟨16000000, by decide⟩
  · exact ⟨2560000, by decide⟩
  · exact ⟨409600, by decide⟩
  · exact ⟨65536, by decide⟩
theorem bta_le (n : Nat) : 262144 ≤ bta n ∧ bta n ≤ 2500000000 := by
  unfold bta
  split <;> decide
/-- A step of the synthesis, by halves. -/
def Stp (kk : Int) (bs : List Pl) (q : Nat) (p p' : Pl) : Prop :=
  ∃ D1 D2 D3 : List Int, bs[3 * q + 1]? = some ⟨p'.x0 / 2, (p'.y0 + 1) / 2, p'.x1 / 2, (p'.y1 + 1) / 2, D1⟩ ∧ bs[3 * q + 2]? = some ⟨(p'.x0 + 1) / 2, p'.y0 / 2, (p'.x1 + 1) / 2, p'.y1 / 2, D2⟩ ∧ bs[3 * q + 3]? = some ⟨p'.x0 / 2, p'.y0 / 2, p'.x1 / 2, p'.y1 / 2, D3⟩ ∧ (p.x0 = (p'.x0 + 1) / 2 ∧ p.y0 = (p'.y0 + 1) / 2 ∧ p.x1 = (p'.x1 + 1) / 2 ∧ p.y1 = (p'.y1 + 1) / 2) ∧ MergeTo kk p'.x0 p'.y0 p'.x1 p'.y1 p.x0 (p'.x0 / 2) p.x1 (p'.x1 / 2) p.y0 (p'.y0 / 2) p.y1 (p'.y1 / 2) p.D D1 D2 D3 p'.D
/-- A plane of numbers that are not too large. -/
def Fit (b : Int) (p : Pl) : Prop := PV p.x0 p.y0 p.x1 p.y1 p.D ∧ Bd b p.D
theorem ana_ok {kk : Int} (hkk : 1 ≤ kk ∧ kk ≤ 3) : ∀ (n : Nat) (p : Pl), n ≤ 5 → Fit (bta n) p → ∃ (bs : List Pl) (u : Nat → Pl), Ana kk n p bs ∧ u n = p ∧ bs[0]? = some (u 0) ∧ (∀ q, q < n → Stp kk bs q (u q) (u (q + 1))) ∧ (∀ b ∈ bs, Fit 2500000000 b) ∧ ∀ q, q ≤ n → Fit 2500000000 (u q)
  | 0, p, hn, hf => ⟨[p], fun _ => p, .zero p, rfl, rfl, fun q hq => absurd hq (Nat.not_lt_zero q), fun b hb => by
      obtain rfl : b = p := by simpa using hb
      exact ⟨hf.1, hf.2.mono (bta_le _).2⟩, fun q hq => ⟨hf.1, hf.2.mono (bta_le _).2⟩⟩
  | n + 1, p, hn, hf => by
    obtain ⟨c, c1, c2, c3, c4⟩ := bta_step (n := n) (by omega)
    obtain ⟨x0, y0, x1, y1, D⟩ := p
    obtain ⟨hv, hb⟩ := hf
    have hb0 := hb.mono (bta_le _).2
    rw [c1] at hb
    obtain ⟨G0, G1, G2, G3, hs, hm, g0, g1, g2, g3⟩ := split_ok hkk hv c3 c4 hb
    rw [c2] at g0 g1 g2 g3
    obtain ⟨bs, u, i1, i2, i3, i4, i5, i6⟩ := ana_ok hkk n ⟨(x0 + 1) / 2, (y0 + 1) / 2, (x1 + 1) / 2, (y1 + 1) / 2, G0⟩ (by omega) g0
    have hl := i1.len
    refine ⟨bs ++ [⟨x0 / 2, (y0 + 1) / 2, x1 / 2, (y1 + 1) / 2, G1⟩, ⟨(x0 + 1) / 2, y0 / 2, (x1 + 1) / 2, y1 / 2, G2⟩, ⟨x0 / 2, y0 / 2, x1 / 2, y1 / 2, G3⟩], fun q => if q ≤ n then u q else ⟨x0, y0, x1, y1, D⟩, .succ n x0 y0 x1 y1 D _ _ _ _ _ _ _ _ G0 G1 G2 G3 bs hs i1, if_neg (by omega), ?_, ?_, ?_, ?_⟩
    · rw [List.getElem?_append_left (by omega), i3]
      show _ = some (if 0 ≤ n then u 0 else _)
      rw [if_pos (Nat.zero_le _)]
    · intro q hq
      show Stp kk _ q (if q ≤ n then u q else _) (if q + 1 ≤ n then u (q + 1) else _)
      rw [if_pos (show q ≤ n by omega)]
      by_cases h : q < n
      · rw [if_pos (show q + 1 ≤ n by omega)]
        obtain ⟨D1, D2, D3, s1, s2, s3, s4, s5⟩ := i4 q h
        exact ⟨D1, D2, D3, by rw [List.getElem?_append_left (by omega), s1], by rw [List.getElem?_append_left (by omega), s2], by rw [List.getElem?_append_left (by omega), s3], s4, s5⟩
      · obtain rfl : q = n := by omega
        rw [if_neg (show ¬ q + 1 ≤ q by omega), i2]
        exact ⟨G1, G2, G3, by rw [List.getElem?_append_right (by omega), hl, Nat.sub_self]; rfl, by rw [List.getElem?_append_right (by omega), hl, show 3 * q + 2 - (3 * q + 1) = 1 by omega]; rfl, by rw [List.getElem?_append_right (by omega), hl, show 3 * q + 3 - (3 * q + 1) = 2 by omega]; rfl, ⟨rfl, rfl, rfl, rfl⟩, hm⟩
    · intro b hb
      rcases List.mem_append.mp hb with hb | hb
      · exact i5 b hb
      · simp only [List.mem_cons, List.not_mem_nil, or_false] at hb
        rcases hb with rfl | rfl | rfl
        · exact ⟨g1.1, g1.2.mono (bta_le _).2⟩
        · exact ⟨g2.1, g2.2.mono (bta_le _).2⟩
        · exact ⟨g3.1, g3.2.mono (bta_le _).2⟩
    · intro q hq
      by_cases h : q ≤ n
      · show Fit _ (if q ≤ n then u q else _)
        rw [if_pos h]
        exact i6 q h
      · show Fit _ (if q ≤ n then u q else _)
        rw [if_neg h]
        exact ⟨hv, hb0⟩

/-! ### the resolutions' rectangles -/
/-- Halved d times, upwards. -/
def cd (d : Nat) (x : Int) : Int := (x + (2 ^ d : Nat) - 1) / (2 ^ d : Nat)
theorem cd_succ {d : Nat} (h : d < 5) (x : Int) : cd (d + 1) x = (cd d x + 1) / 2 := by
  have : d = 0 ∨ d = 1 ∨ d = 2 ∨ d = 3 ∨ d = 4 := by omega
  unfold cd
  rcases this with rfl | rfl | rfl | rfl | rfl <;> simp only [Nat.reducePow, Nat.reduceAdd] <;> omega
theorem cd_zero (x : Int) : cd 0 x = x := by
  unfold cd
  simp
theorem cd_le {d : Nat} (h : d ≤ 5) {x y : Int} (hx : 0 ≤ x) (hxy : x ≤ y) (hy : y ≤ 4096) : 0 ≤ cd d x ∧ cd d x ≤ cd d y ∧ cd d y ≤ 4096 := by
  have : d = 0 ∨ d = 1 ∨ d = 2 ∨ d = 3 ∨ d = 4 ∨ d = 5 := by omega
  unfold cd
  rcases this with rfl | rfl | rfl | rfl | rfl | rfl <;> simp only [Nat.reducePow, Nat.reduceAdd] <;> omega
theorem ceil_of {d : Nat} (h : d ≤ 5) {x : Int} (hx : 0 ≤ x) (hx1 : x ≤ 4096) : rect_CeilDiv.f x ((2 ^ d : Nat) : Int) = some (cd d x) := by
  unfold rect_CeilDiv.f cd
  have : d = 0 ∨ d = 1 ∨ d = 2 ∨ d = 3 ∨ d = 4 ∨ d = 5 := by omega
  rw [Int.tmod_eq_emod_of_nonneg hx, Int.tdiv_eq_ediv_of_nonneg hx]
  rcases this with rfl | rfl | rfl | rfl | rfl | rfl <;> simp only [Nat.reducePow] <;> rw [if_neg (by omega), if_neg (by omega)] <;> split <;> congr 1 <;> unfold wrap64 <;> omega
theorem lev_of : ∀ n : Fin 6, ∀ q : Fin 6, q ≤ n → pyramid_validLevels.f ((n.val : Nat) : Int) = some true ∧ IntKind.u64.wrap (wrap64 (((n.val : Nat) : Int) - ((q.val : Nat) : Int))) = ((n.val - q.val : Nat) : Int) ∧ shl .i64 1 ((n.val - q.val : Nat) : Int) = ((2 ^ (n.val - q.val) : Nat) : Int) := by decide +kernel
theorem res_of {n q : Nat} (hn : n ≤ 5) (hq : q ≤ n) {x0 y0 x1 y1 : Int} (hx : 0 ≤ x0 ∧ x0 ≤ x1 ∧ x1 ≤ 4096) (hy : 0 ≤ y0 ∧ y0 ≤ y1 ∧ y1 ≤ 4096) : pyramid_Resolution.f 1 x0 y0 x1 y1 (n : Int) (q : Int) = some (cd (n - q) x0, cd (n - q) y0, cd (n - q) x1, cd (n - q) y1) := by
  obtain ⟨h1, h2, h3⟩ := lev_of ⟨n, by omega⟩ ⟨q, by omega⟩ (by show q ≤ n; exact hq)
  simp only at h1 h2 h3
  have hp : (1 : Int) ≤ ((2 ^ (n - q) : Nat) : Int) ∧ ((2 ^ (n - q) : Nat) : Int) ≤ 4096 := by
    have : n - q = 0 ∨ n - q = 1 ∨ n - q = 2 ∨ n - q = 3 ∨ n - q = 4 ∨ n - q = 5 := by omega
    rcases this with h | h | h | h | h | h <;> rw [h] <;> decide
  unfold pyramid_Resolution.f
  rw [h1]
  simp only [Option.bind_some, if_true]
  rw [if_neg (by omega), if_neg (by omega), h2, h3, if_pos (by omega)]
  unfold rect_Reduce.f
  rw [rv_of hx hy]
  simp only [Option.bind_some, if_true]
  rw [if_neg (by omega), if_neg (by omega), if_neg (by omega), decide_eq_false (by omega)]
  rw [rect_Reduce.j0.eq_2, if_neg (by decide), ceil_of (by omega) hx.1 (by omega), ceil_of (by omega) hy.1 (by omega), ceil_of (by omega) (by omega) hx.2.2, ceil_of (by omega) (by omega) hy.2.2]
  rfl
theorem place_of : ∀ n : Fin 6, ∀ q : Fin 5, q.val < n.val → ∀ o : Fin 4, 1 ≤ o.val → pyramid_Place.f 1 ((3 * q.val + o.val : Nat) : Int) ((n.val : Nat) : Int) = some (((n.val - q.val : Nat) : Int), ((o.val : Nat) : Int), true) := by decide +kernel
theorem place_zero : ∀ n : Fin 6, pyramid_Place.f 1 0 ((n.val : Nat) : Int) = some (((n.val : Nat) : Int), 0, true) := by decide +kernel

/-- The subbands of a plane are what the synthesis wants, and it leads back. -/
theorem pyr_ok {kk : Int} (hkk : 1 ≤ kk ∧ kk ≤ 3) {n : Nat} (hn : n ≤ 5) {x0 y0 x1 y1 : Int} {D : List Int} (hv : PV x0 y0 x1 y1 D) (hb : Bd 262144 D) :
    ∃ (bs : List Pl) (u : Nat → Pl), Ana kk n ⟨x0, y0, x1, y1, D⟩ bs ∧ u n = ⟨x0, y0, x1, y1, D⟩ ∧ bs[0]? = some (u 0) ∧ (∀ q, q < n → SynStep kk x0 y0 x1 y1 (n : Int) bs q (u q) (u (q + 1))) ∧ (∀ (j : Nat) (b : Pl), bs[j]? = some b → BandOk x0 y0 x1 y1 (n : Int) j b ∧ Bd 2500000000 b.D ∧ b.D.length ≤ 1048576) ∧ ∀ q, q ≤ n → ((u q).x0 = cd (n - q) x0 ∧ (u q).y0 = cd (n - q) y0 ∧ (u q).x1 = cd (n - q) x1 ∧ (u q).y1 = cd (n - q) y1) ∧ Fit 2500000000 (u q) := by
  obtain ⟨⟨p1, p2, p3⟩, ⟨q1, q2, q3⟩, _, _⟩ := id hv
  have hx : 0 ≤ x0 ∧ x0 ≤ x1 ∧ x1 ≤ 4096 := ⟨p1, p2, p3⟩
  have hy : 0 ≤ y0 ∧ y0 ≤ y1 ∧ y1 ≤ 4096 := ⟨q1, q2, q3⟩
  obtain ⟨bs, u, i1, i2, i3, i4, i5, i6⟩ := ana_ok hkk n ⟨x0, y0, x1, y1, D⟩ hn ⟨hv, hb.mono (bta_le _).1⟩
  have hrect : ∀ d, d ≤ n → ((u (n - d)).x0 = cd d x0 ∧ (u (n - d)).y0 = cd d y0 ∧ (u (n - d)).x1 = cd d x1 ∧ (u (n - d)).y1 = cd d y1) := by
    intro d
    induction d with
    | zero => intro _; rw [Nat.sub_zero, i2, cd_zero, cd_zero, cd_zero, cd_zero]; exact ⟨rfl, rfl, rfl, rfl⟩
    | succ d ih =>
      intro hd
      obtain ⟨a1, a2, a3, a4⟩ := ih (by omega)
      obtain ⟨_, _, _, _, _, _, ⟨b1, b2, b3, b4⟩, _⟩ := i4 (n - (d + 1)) (by omega)
      rw [show n - (d + 1) + 1 = n - d by omega] at b1 b2 b3 b4
      rw [b1, b2, b3, b4, a1, a2, a3, a4, cd_succ (by omega), cd_succ (by omega), cd_succ (by omega), cd_succ (by omega)]
      exact ⟨rfl, rfl, rfl, rfl⟩
  have hr : ∀ q, q ≤ n → ((u q).x0 = cd (n - q) x0 ∧ (u q).y0 = cd (n - q) y0 ∧ (u q).x1 = cd (n - q) x1 ∧ (u q).y1 = cd (n - q) y1) := by
    intro q hq
    have := hrect (n - q) (by omega)
    rwa [show n - (n - q) = q by omega] at this
  have hres : ∀ q, q ≤ n → pyramid_Resolution.f 1 x0 y0 x1 y1 (n : Int) (q : Int) = some ((u q).x0, (u q).y0, (u q).x1, (u q).y1) := by
    intro q hq
    obtain ⟨a1, a2, a3, a4⟩ := hr q hq
    rw [res_of hn hq hx hy, a1, a2, a3, a4]
  refine ⟨bs, u, i1, i2, i3, ?_, ?_, fun q hq => ⟨hr q hq, i6 q hq⟩⟩
  · intro q hq
    obtain ⟨D1, D2, D3, s1, s2, s3, ⟨b1, b2, b3, b4⟩, s5⟩ := i4 q hq
    refine ⟨1, _, _, _, _, D1, D2, D3, ?_, ?_, s3, hres (q + 1) (by omega), s5⟩
    · rw [s1, b2, b4]
    · rw [s2, b1, b3]
  · intro j b hj
    have hl := i1.len
    have hjl : j < 3 * n + 1 := by
      rw [← hl]
      exact (List.getElem?_eq_some_iff.mp hj).1
    have hbf := i5 b (List.mem_of_getElem? hj)
    have hlen : b.D.length ≤ 1048576 := by
      obtain ⟨w, m, _, _, h1, h2⟩ := hbf.1.nat
      omega
    refine ⟨⟨hbf.1, ?_, 2000000, pexceeds_f (hbf.2.mono (by decide)) (by decide) (by decide) (by omega) (by decide)⟩, hbf.2, hlen⟩
    refine ⟨rv_of hx hy, ?_⟩
    by_cases h0 : j = 0
    · subst h0
      obtain rfl : b = u 0 := by
        rw [hj] at i3
        exact Option.some.inj i3
      exact ⟨1, 1, _, _, place_zero ⟨n, by omega⟩, Or.inl ⟨rfl, hres 0 (by omega)⟩⟩
    · obtain ⟨q, o, e, ho1, ho3, hq⟩ : ∃ q o : Nat, j = 3 * q + o ∧ 1 ≤ o ∧ o ≤ 3 ∧ q < n := ⟨(j - 1) / 3, j - 3 * ((j - 1) / 3), by omega, by omega, by omega, by omega⟩
      subst e
      have hp := place_of ⟨n, by omega⟩ ⟨q, by omega⟩ hq ⟨o, by omega⟩ ho1
      simp only at hp
      obtain ⟨D1, D2, D3, s1, s2, s3, ⟨b1, b2, b3, b4⟩, s5⟩ := i4 q hq
      have hu := (i6 (q + 1) (by omega)).1
      obtain ⟨⟨t1, t2, t3⟩, ⟨t4, t5, t6⟩, _, _⟩ := hu
      refine ⟨1, 1, _, _, hp, Or.inr ⟨by omega, (u (q + 1)).x0, (u (q + 1)).y0, (u (q + 1)).x1, (u (q + 1)).y1, ((u (q + 1)).x0 + 1) / 2, (u (q + 1)).x0 / 2, ((u (q + 1)).x1 + 1) / 2, (u (q + 1)).x1 / 2, ((u (q + 1)).y0 + 1) / 2, (u (q + 1)).y0 / 2, ((u (q + 1)).y1 + 1) / 2, (u (q + 1)).y1 / 2, ?_, rv_of ⟨t1, t2, t3⟩ ⟨t4, t5, t6⟩, bands_of ⟨t1, t2, t3⟩ ⟨t4, t5, t6⟩, ?_⟩⟩
      · rw [show wrap64 (wrap64 ((n : Int) - ((n - q : Nat) : Int)) + 1) = ((q + 1 : Nat) : Int) by unfold wrap64; omega]
        exact hres (q + 1) (by omega)
      · have : o = 1 ∨ o = 2 ∨ o = 3 := by omega
        rcases this with rfl | rfl | rfl
        · rw [s1] at hj
          obtain rfl := Option.some.inj hj
          exact Or.inl ⟨rfl, rfl⟩
        · rw [s2] at hj
          obtain rfl := Option.some.inj hj
          exact Or.inr (Or.inl ⟨rfl, rfl⟩)
        · rw [s3] at hj
          obtain rfl := Option.some.inj hj
          exact Or.inr (Or.inr ⟨rfl, rfl⟩)
end Go.Proofs.Ytcnpekpgghppnaa.Q

/- The plain law of the guards and of the comparison. -/
namespace Go.Proofs.Ytcnpekpgghppnaa.Q
open Go.RowKit Go.Proofs.YtcnpekpgghppnaaW.PrintWords Go.Proofs.YtcnpekpgghppnaaW.PrintLast Go.Proofs.YtcnpekpgghppnaaW.PrintMore
set_option linter.unusedVariables false
set_option linter.unusedSimpArgs false

/-! ### a small plane -/
theorem valid01 (x0 y0 x1 y1 : Int) : ∃ r, waveletref01_Valid.f x0 y0 x1 y1 = some r ∧ (r = true → (0 ≤ x0 ∧ x0 ≤ x1 ∧ x1 ≤ 4096) ∧ (0 ≤ y0 ∧ y0 ≤ y1 ∧ y1 ≤ 4096)) := by
  unfold waveletref01_Valid.f
  split
  · split
    · split
      · split
        · split
          · exact ⟨_, rfl, fun h => by have := of_decide_eq_true h; omega⟩
          · exact ⟨_, rfl, fun h => by cases h⟩
        · exact ⟨_, rfl, fun h => by cases h⟩
      · exact ⟨_, rfl, fun h => by cases h⟩
    · exact ⟨_, rfl, fun h => by cases h⟩
  · exact ⟨_, rfl, fun h => by cases h⟩
theorem valid02 (x0 y0 x1 y1 : Int) (D : List Int) : ∃ r, waveletref02_Valid.f x0 y0 x1 y1 D = some r ∧ (r = true → PV x0 y0 x1 y1 D) := by
  obtain ⟨r, h, hr⟩ := valid01 x0 y0 x1 y1
  unfold waveletref02_Valid.f waveletref01_Area.f
  rw [h]
  simp only [Option.bind_some]
  cases r with
  | false =>
    simp only [Bool.false_eq_true, if_false, Option.bind_some]
    exact ⟨_, rfl, fun h => by cases h⟩
  | true =>
    obtain ⟨⟨a1, a2, a3⟩, ⟨b1, b2, b3⟩⟩ := hr rfl
    simp only [if_true, Option.bind_some]
    obtain ⟨w, hw⟩ := Int.eq_ofNat_of_zero_le (show 0 ≤ x1 - x0 by omega)
    obtain ⟨m, hm⟩ := Int.eq_ofNat_of_zero_le (show 0 ≤ y1 - y0 by omega)
    have hwm : m * w ≤ 4096 * 4096 := Nat.mul_le_mul (by omega) (by omega)
    rw [show wrap64 (x1 - x0) = (w : Int) by rw [wid (by omega) (by omega)]; omega, show wrap64 (y1 - y0) = (m : Int) by rw [wid (by omega) (by omega)]; omega, ← Int.natCast_mul, Nat.mul_comm, wid (by omega) (by omega)]
    split
    · refine ⟨_, rfl, fun h => ?_⟩
      have h := eq_of_beq h
      exact PV.of_nat ⟨a1, a3⟩ ⟨b1, b3⟩ (w := w) (m := m) (by omega) (by omega) (by omega) (by omega)
    · exact ⟨_, rfl, fun h => by cases h⟩
theorem small_l0 (D : List Int) (hl : D.length ≤ 1000000) : ∀ (k i : Nat), i ≤ D.length → D.length < k + i → ∃ r, wavelettop_smallPlane.l0 k D (D.length : Int) (i : Int) = some r ∧ (r = true → ∀ j : Nat, i ≤ j → j < D.length → -65536 ≤ rd D (j : Int) ∧ rd D (j : Int) ≤ 65536)
  | 0, i, hi, hk => by omega
  | k + 1, i, hi, hk => by
    rw [wavelettop_smallPlane.l0.eq_2]
    by_cases c : i < D.length
    · rw [if_pos (by omega), if_pos (by omega), if_pos (by omega)]
      by_cases c1 : rd D (i : Int) < -65536
      · rw [if_pos c1]
        exact ⟨_, rfl, fun h => by cases h⟩
      · rw [if_neg c1]
        by_cases c2 : rd D (i : Int) > 65536
        · rw [if_pos c2]
          exact ⟨_, rfl, fun h => by cases h⟩
        · rw [if_neg c2, show wrap64 ((i : Int) + 1) = ((i + 1 : Nat) : Int) from wid (by omega) (by omega)]
          obtain ⟨r, h1, h2⟩ := small_l0 D hl k (i + 1) (by omega) (by omega)
          refine ⟨r, h1, fun hr j hj hjl => ?_⟩
          by_cases e : j = i
          · subst e
            omega
          · exact h2 hr j (by omega) hjl
    · rw [if_neg (by omega)]
      exact ⟨_, rfl, fun _ j hj hjl => by omega⟩
theorem small_total (x0 y0 x1 y1 : Int) (D : List Int) : ∃ k r, wavelettop_smallPlane.f k x0 y0 x1 y1 D = some r ∧ (r = true → PV x0 y0 x1 y1 D ∧ D.length ≤ 900 ∧ Bd 65536 D) := by
  obtain ⟨r, h, hr⟩ := valid02 x0 y0 x1 y1 D
  unfold wavelettop_smallPlane.f
  rw [h]
  simp only [Option.bind_some]
  cases r with
  | false =>
    refine ⟨1, false, ?_, fun h => by cases h⟩
    rw [if_neg (by decide), wavelettop_smallPlane.j0.eq_2, if_pos rfl]
  | true =>
    by_cases c : (D.length : Int) > 900
    · refine ⟨1, false, ?_, fun h => by cases h⟩
      rw [if_pos rfl, decide_eq_true c, wavelettop_smallPlane.j0.eq_2, if_pos rfl]
    · obtain ⟨q, h1, h2⟩ := small_l0 D (by omega) (D.length + 1) 0 (by omega) (by omega)
      refine ⟨D.length + 1 + 1, q, ?_, fun hq => ⟨hr rfl, by omega, Bd.of_rd fun i hi => h2 hq i (by omega) hi⟩⟩
      rw [if_pos rfl, decide_eq_false c, wavelettop_smallPlane.j0.eq_2, if_neg (by decide)]
      exact h1
theorem known_total (kk : Int) : ∃ r, wavelettop_knownKernel.f kk = some r ∧ (r = true → 1 ≤ kk ∧ kk ≤ 3) := by
  unfold wavelettop_knownKernel.f
  split
  · exact ⟨_, rfl, fun h => by have := of_decide_eq_true h; omega⟩
  · exact ⟨_, rfl, fun h => by cases h⟩

/-! ### the comparison -/
theorem same_l0 {D : List Int} (hl : D.length ≤ 2000000) : ∀ (k i : Nat), i ≤ D.length → D.length < k + i → waveletref02_SameInts.l0 k D D (i : Int) = some true
  | 0, i, hi, hk => by omega
  | k + 1, i, hi, hk => by
    rw [waveletref02_SameInts.l0.eq_2]
    by_cases q : i < D.length
    · rw [if_pos (by omega), if_pos (by omega), if_pos (by omega), if_pos rfl, show wrap64 ((i : Int) + 1) = ((i + 1 : Nat) : Int) from wid (by omega) (by omega)]
      exact same_l0 hl k (i + 1) (by omega) (by omega)
    · rw [if_neg (by omega)]
theorem same_ref {k : Nat} {x0 y0 x1 y1 : Int} {D : List Int} (hl : D.length ≤ 2000000) (hk : D.length < k) : waveletref02_Same.f k x0 y0 x1 y1 D x0 y0 x1 y1 D = some true := by
  unfold waveletref02_Same.f waveletref02_SameInts.f
  rw [if_pos (by simp), if_pos rfl]
  have := same_l0 hl k 0 (by omega) (by omega)
  rw [show ((0 : Nat) : Int) = 0 from rfl] at this
  rw [this]
  rfl
theorem sameAll_l0 {l : List S26} (hl : l.length ≤ 1000) (hD : ∀ s ∈ l, s.f1.length ≤ 2000000) : ∀ (k i : Nat), i ≤ l.length → l.length + 2000001 < k + i → waveletref02_SameAll.l0 k l l (i : Int) = some true
  | 0, i, hi, hk => by omega
  | k + 1, i, hi, hk => by
    rw [waveletref02_SameAll.l0.eq_2]
    by_cases q : i < l.length
    · have hm : (rd_T26 l (i : Int)).f1.length ≤ 2000000 := by
        refine hD _ ?_
        unfold rd_T26
        rw [Int.toNat_natCast, List.getD_eq_getElem?_getD, List.getElem?_eq_getElem q]
        exact List.getElem_mem q
      rw [if_pos (by omega), if_pos (by omega), if_pos (by omega), same_ref hm (by omega), Option.bind_some, if_pos rfl, show wrap64 ((i : Int) + 1) = ((i + 1 : Nat) : Int) from wid (by omega) (by omega)]
      exact sameAll_l0 hl hD k (i + 1) (by omega) (by omega)
    · rw [if_neg (by omega)]
theorem same_all {l : List S26} (hl : l.length ≤ 1000) (hD : ∀ s ∈ l, s.f1.length ≤ 2000000) : wavelettop_samePlanes.f 3000000 l l = some true := by
  unfold wavelettop_samePlanes.f waveletref02_SameAll.f
  have := sameAll_l0 hl hD 3000000 0 (by omega) (by omega)
  rw [show ((0 : Nat) : Int) = 0 from rfl] at this
  rw [if_pos rfl, this]
  rfl
end Go.Proofs.Ytcnpekpgghppnaa.Q
