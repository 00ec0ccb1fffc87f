/- Texts of this session (words and printed walks, merged by wip/tools/merge.py) for the statement of the claim. -/
import Derived.Test.YtihfopblmjgfaaaMSizes1
import Derived.Test.YtihfopblmjgfaaaMSizes9
import Derived.Test.YtihfopblmjgfaaaMSizes7
namespace Go.Proofs.Ytihfopblmjgfaaa.Q
open Go.RowKit Go.Proofs.YtihfopblmjgfaaaW.PrintWords Go.Proofs.YtihfopblmjgfaaaW.PrintLast Go.Proofs.YtihfopblmjgfaaaW.PrintMore
attribute [local go_sem] max2_int min2_int max_two min_two max_three min_three max_four min_four   -- for this text's walks alone
set_option linter.unusedVariables false
set_option linter.unusedSimpArgs false

/-! ### waveletref29_ParseSize: function 40 -/
mutual
def waveletref29_ParseSize.j0 : Nat → Int → Int → List Int → Option (Int × Int × Int × Int × Int × Int × (List (S97)) × Int)
  | 0, _, _, _ => none
  | k + 1, x4, x922000, x922001 => (waveletref29_framed.f x922000 x922001 65441 x4).bind fun t924 => (if t924 = 0 then ((waveletref29_get.f k x922001 0 2).bind fun t925 => ((waveletref29_get.f k x922001 2 2).bind fun t926 => ((waveletref29_get.f k x922001 4 2).bind fun t927 => ((waveletref29_get.f k x922001 6 2).bind fun t928 => ((waveletref29_get.f k x922001 8 2).bind fun t929 => ((waveletref29_get.f k x922001 10 2).bind fun t930 => (waveletref29_ParseSize.l0 k x4 x922001 13 t925 t926 t927 t928 t929 t930 ([] : List (S97))))))))) else (some (0, 0, 0, 0, 0, 0, ([] : List (S97)), t924)))
def waveletref29_ParseSize.l0 : Nat → Int → List Int → Int → Int → Int → Int → Int → Int → Int → List (S97) → Option (Int × Int × Int × Int × Int × Int × (List (S97)) × Int)
  | 0, _, _, _, _, _, _, _, _, _, _ => none
  | k + 1, x4, x6, x8, x932000, x932001, x932002, x932003, x932004, x932005, x932006 => if x8 < x4 then (if 0 ≤ x8 then (if x8 < (x6.length : Int) then (if 0 ≤ (wrap64 (x8 + 1)) then (if (wrap64 (x8 + 1)) < (x6.length : Int) then (if 0 ≤ (wrap64 (x8 + 2)) then (if (wrap64 (x8 + 2)) < (x6.length : Int) then (if x932006.length < 4398046511104 then (waveletref29_ParseSize.l0 k x4 x6 (wrap64 (x8 + 3)) x932000 x932001 x932002 x932003 x932004 x932005 (x932006 ++ [(⟨wrap64 ((Int.tmod (wrap64 (rd x6 x8)) 128) + 1), decide ((rd x6 x8) ≥ 128), wrap64 (rd x6 (wrap64 (x8 + 1))), wrap64 (rd x6 (wrap64 (x8 + 2)))⟩ : S97)])) else (none)) else (none)) else (none)) else (none)) else (none)) else (none)) else (none)) else ((waveletref23_Header.f k x932000 x932001 x932002 x932003 x932004 x932005 x932006).bind fun t939 => (if t939 = 0 then (some (x932000, x932001, x932002, x932003, x932004, x932005, x932006, 0)) else (some (0, 0, 0, 0, 0, 0, ([] : List (S97)), t939))))
end
def waveletref29_ParseSize.f (k : Nat) (a0_0 : Int) (l0_1 : List Int) : Option (Int × Int × Int × Int × Int × Int × (List (S97)) × Int) := if (l0_1.length : Int) ≥ 13 then (if 12 < (l0_1.length : Int) then (waveletref29_ParseSize.j0 k (wrap64 (13 + (wrap64 (3 * (wrap64 (rd l0_1 12)))))) a0_0 l0_1) else (none)) else (waveletref29_ParseSize.j0 k 13 a0_0 l0_1)
theorem waveletref29_ParseSize.mono_l : ∀ k, (∀ y0 y1 y2, LeO (waveletref29_ParseSize.j0 k y0 y1 y2) (waveletref29_ParseSize.j0 (k + 1) y0 y1 y2)) ∧ (∀ y0 y1 y2 y3 y4 y5 y6 y7 y8 y9, LeO (waveletref29_ParseSize.l0 k y0 y1 y2 y3 y4 y5 y6 y7 y8 y9) (waveletref29_ParseSize.l0 (k + 1) y0 y1 y2 y3 y4 y5 y6 y7 y8 y9))
  | 0 => ⟨fun _ _ _ r h => by simp [waveletref29_ParseSize.j0] at h, fun _ _ _ _ _ _ _ _ _ _ r h => by simp [waveletref29_ParseSize.l0] at h⟩
  | k + 1 => by
    obtain ⟨ih0, ih1⟩ := waveletref29_ParseSize.mono_l k
    refine ⟨?_, ?_⟩
    · intro y0 y1 y2
      unfold waveletref29_ParseSize.j0
      repeat' first
      | (with_reducible exact ih0 _ _ _)
      | (with_reducible exact ih1 _ _ _ _ _ _ _ _ _ _)
      | (with_reducible exact waveletref23_Header.mono _ _ _ _ _ _ _ _)
      | (with_reducible exact waveletref29_get.mono _ _ _ _)
      | (with_reducible exact LeO.refl _)
      | (with_reducible exact LeO.none _)
      | (with_reducible refine LeO.ite ?_ ?_)
      | (with_reducible refine LeO.bind ?_ (fun _ => ?_))
      | exact ih0 _ _ _
      | exact ih1 _ _ _ _ _ _ _ _ _ _
      | exact waveletref23_Header.mono _ _ _ _ _ _ _ _
      | exact waveletref29_get.mono _ _ _ _
      | exact LeO.none _
      | refine LeO.ite ?_ ?_
      | refine LeO.bind ?_ (fun _ => ?_)
    · intro y0 y1 y2 y3 y4 y5 y6 y7 y8 y9
      unfold waveletref29_ParseSize.l0
      repeat' first
      | (with_reducible exact ih0 _ _ _)
      | (with_reducible exact ih1 _ _ _ _ _ _ _ _ _ _)
      | (with_reducible exact waveletref23_Header.mono _ _ _ _ _ _ _ _)
      | (with_reducible exact waveletref29_get.mono _ _ _ _)
      | (with_reducible exact LeO.refl _)
      | (with_reducible exact LeO.none _)
      | (with_reducible refine LeO.ite ?_ ?_)
      | (with_reducible refine LeO.bind ?_ (fun _ => ?_))
      | exact ih0 _ _ _
      | exact ih1 _ _ _ _ _ _ _ _ _ _
      | exact waveletref23_Header.mono _ _ _ _ _ _ _ _
      | exact waveletref29_get.mono _ _ _ _
      | exact LeO.none _
      | refine LeO.ite ?_ ?_
      | refine LeO.bind ?_ (fun _ => ?_)
theorem waveletref29_ParseSize.mono : ∀ a0 a1 k, LeO (waveletref29_ParseSize.f k a0 a1) (waveletref29_ParseSize.f (k + 1) a0 a1) := by
  intro a0 a1 k
  obtain ⟨ih0, ih1⟩ := waveletref29_ParseSize.mono_l k
  unfold waveletref29_ParseSize.f
  repeat' first
      | (with_reducible exact ih0 _ _ _)
      | (with_reducible exact ih1 _ _ _ _ _ _ _ _ _ _)
      | (with_reducible exact waveletref23_Header.mono _ _ _ _ _ _ _ _)
      | (with_reducible exact waveletref29_get.mono _ _ _ _)
      | (with_reducible exact LeO.refl _)
      | (with_reducible exact LeO.none _)
      | (with_reducible refine LeO.ite ?_ ?_)
      | (with_reducible refine LeO.bind ?_ (fun _ => ?_))
      | exact ih0 _ _ _
      | exact ih1 _ _ _ _ _ _ _ _ _ _
      | exact waveletref23_Header.mono _ _ _ _ _ _ _ _
      | exact waveletref29_get.mono _ _ _ _
      | exact LeO.none _
      | refine LeO.ite ?_ ?_
      | refine LeO.bind ?_ (fun _ => ?_)
def waveletref29_ParseSize.T12 : Bool × List (List Nat × List Nat) := (true, [([], []), ([0], [0]), ([], []), ([], []), ([2, 3], [2, 3]), ([4], [4]), ([5], [5]), ([6], [6]), ([7], [7]), ([], []), ([], []), ([9, 10], [9, 10]), ([11], [11]), ([12], [12]), ([], []), ([], []), ([15], [15]), ([14, 16], [14, 16]), ([17], [17]), ([18], [18]), ([], []), ([], []), ([21], [21]), ([20, 22], [20, 22]), ([23], [23]), ([24], [24]), ([8, 13, 19, 25], [8, 13, 19, 25]), ([26], [26]), ([1, 27], [1, 27]), ([0, 1, 2, 3, 4, 5, 6, 7, 8, 9, 10, 11, 12, 13, 14, 15, 16, 17, 18, 19, 20, 21, 22, 23, 24, 25, 26, 27, 28], []), ([29, 28, 28, 0, 1, 2, 3, 4, 5, 6, 7, 8, 9, 10, 11, 12, 13, 14, 15, 16, 17, 18, 19, 20, 21, 22, 23, 24, 25, 26, 27, 28], [28, 29])])
def waveletref29_ParseSize.B12 : List Nat := [0, 1, 0, 0, 12, 28, 60, 124, 252, 0, 0, 1536, 3584, 7680, 0, 0, 32768, 114688, 245760, 507904, 0, 0, 2097152, 7340032, 15728640, 32505856, 67108860, 134217724, 268435455, 536870911, 1073741823]
theorem waveletref29_ParseSize.tab12 : rtab .any (opsOf Try.f40 12) = waveletref29_ParseSize.T12 := by kernel_rfl
theorem waveletref29_ParseSize.bits12 : waitsOk waveletref29_ParseSize.T12.2 waveletref29_ParseSize.B12 = true := by kernel_rfl
set_option maxHeartbeats 8000000 in
set_option maxRecDepth 100000 in
theorem waveletref29_ParseSize.calls (k : Nat) (a0_0 : Int) (A0_1 : Option Addr) (c0_1 : Nat) (l0_1 : List Int) (r1 : Int) (r2 : Int) (r3 : Int) (r4 : Int) (r5 : Int) (r6 : Int) (r7 : List (S97)) (r8 : Int) (w : World) (hr0_1 : Kd.C (Kd.int .u8) w A0_1 l0_1.length l0_1) (hc0_1 : l0_1.length ≤ c0_1) (h : waveletref29_ParseSize.f k a0_0 l0_1 = some (r1, r2, r3, r4, r5, r6, r7, r8)) :
    Calls Try.prog 40 #[.agg #[.int .i64 a0_0, .slice A0_1 l0_1.length c0_1]] w fun e w' => ∃ v6_ : Value, e = .returned (.tuple #[.agg #[.int .i64 r1, .int .i64 r2, .int .i64 r3, .int .i64 r4, .int .i64 r5, .int .i64 r6, v6_], .int .i64 r8]) ∧ Kd.R k97 97 w' w.heap.size (fun _ => True) v6_ r7 ∧ Below w.heap.size w w' := by
  have hu26 := Try.underlying26
  have hu67 := Try.underlying67
  have hu64 := Try.underlying64
  have hu97 := Try.underlying97
  have HR0_1 := Aside0.mk hr0_1
  have HC0_1 := Aside0.mk hc0_1
  clear hr0_1 hc0_1
  have HB := Aside0.mk (Below.refl w.heap.size w)
  have H : (if (l0_1.length : Int) ≥ 13 then (if 12 < (l0_1.length : Int) then (waveletref29_ParseSize.j0 k (wrap64 (13 + (wrap64 (3 * (wrap64 (rd l0_1 12)))))) a0_0 l0_1) else (none)) else (waveletref29_ParseSize.j0 k 13 a0_0 l0_1)) = some (r1, r2, r3, r4, r5, r6, r7, r8) := h
  clear h
  have HC2 := Aside0.mk H
  clear H
  go_enter Try.func40, Try.ntmps40
  go_upto_if 12 with (first | ((with_reducible refine gate_dst (N := 1) rfl ?_); refine box_event ?hg (N := 1) ?hd (cs := #[.int .i64 a0_0, .slice A0_1 l0_1.length c0_1]) (t := 26) ?hr ?_; (case hd => rfl); (case hg => rfl); (case hr => first | (go_simp; done) | (go_simp; rfl)); intro gb921 hg w3 hbox hb; have BK921 := Aside0.mk (hbox); have GW921 := Aside0.mk ((by rw [hg]; exact (below_size (upB HB.out)) : w.heap.size ≤ gb921)); have GE921 := Aside0.mk ((by rw [hg]; exact (below_size (upB HB.out)) : w.heap.size ≤ gb921)); replace HB := Aside0.mk (below_step (upB HB.out) hb); clear hb hbox hg) | ((with_reducible refine gate_dst (N := 2) rfl ?_); refine box_event ?hg (N := 2) ?hd (cs := #[.int .i64 0, .int .i64 0, .int .i64 0, .int .i64 0, .int .i64 0, .int .i64 0, .slice none 0 0]) (t := 67) ?hr ?_; (case hd => rfl); (case hg => rfl); (case hr => first | (go_simp; done) | (go_simp; rfl)); intro gb922 hg w4 hbox hb; have BK922 := Aside0.mk (hbox); have GW922 := Aside0.mk ((by rw [hg]; exact (below_size (upB HB.out)) : w.heap.size ≤ gb922)); have GE922 := Aside0.mk ((by rw [hg]; exact (below_size (upB HB.out)) : w.heap.size ≤ gb922)); replace HB := Aside0.mk (below_step (upB HB.out) hb); have NB921_922 := Aside0.mk ((by rw [hg]; exact Nat.ne_of_lt (blk_lt (upK BK921.out)) : gb921 ≠ gb922)); have NB922_921 := Aside0.mk ((by rw [hg]; exact Nat.ne_of_gt (blk_lt (upK BK921.out)) : gb922 ≠ gb921)); replace BK921 := Aside0.mk (blk_below (g := gb921) (o := .cells #[.int .i64 a0_0, .slice A0_1 l0_1.length c0_1] 26 (0, 0)) (upK BK921.out) hb); clear hb hbox hg; have hnb5 := NB921_922.out; have hnc5 := NB922_921.out; have hcz6_0 : w4.cell? ⟨gb921, 0, none⟩ = some (.int .i64 a0_0) := bc BK921 0; have hcz6_1 : w4.cell? ⟨gb921, 1, none⟩ = some (.slice A0_1 l0_1.length c0_1) := bc BK921 1; have hfz6_0 := blk_frozen BK921.out 0; have hfz6_1 := blk_frozen BK921.out 1))
  (try simp only [Act.put, List.setIfInBounds_toArray, List.set_cons_zero, List.set_cons_succ])
  go_cut [4] (fun v4 wc => ∃ (kq : Nat) (x4_1 : Int), v4 = .int .i64 x4_1 ∧ Aside0 (waveletref29_ParseSize.j0 kq x4_1 a0_0 l0_1 = some (r1, r2, r3, r4, r5, r6, r7, r8)) ∧ Aside0 (kq ≤ k) ∧ Aside0 (wc.heap[gb921]? = some (.cells #[.int .i64 a0_0, (.slice A0_1 l0_1.length c0_1)] 26 (0, 0))) ∧ Aside0 (wc.heap[gb922]? = some (.cells #[.int .i64 0, .int .i64 0, .int .i64 0, .int .i64 0, .int .i64 0, .int .i64 0, (.slice none 0 0)] 67 (0, 0))) ∧ Aside0 (Below w.heap.size w wc))
  case first =>
    have H := HC2.out
    clear HC2
    by_cases c7 : (l0_1.length : Int) ≥ 13
    · rw [if_pos c7] at H
      have c7b0 : decide (13 ≤ (l0_1.length : Int)) = true := decide_eq_true c7
      have c7b1 : decide (13 ≤ l0_1.length) = true := decide_eq_true (by omega)
      clear c7
      (first | rw [c7b0] | (simp only [i64_w, i32_w]; rw [c7b0]) | skip)
      by_cases c8 : 12 < (l0_1.length : Int)
      · rw [if_pos c8] at H
        have c8b0 : decide (12 < (l0_1.length : Int)) = true := decide_eq_true c8
        have c8b1 : decide (12 < l0_1.length) = true := decide_eq_true (by omega)
        clear c8
        have H' := Aside0.mk H
        clear H
        have hnb9 := NB921_922.out
        have hnc9 := NB922_921.out
        have hcz10_0 : w4.cell? ⟨gb921, 0, none⟩ = some (.int .i64 a0_0) := bc BK921 0
        have hcz10_1 : w4.cell? ⟨gb921, 1, none⟩ = some (.slice A0_1 l0_1.length c0_1) := bc BK921 1
        have hfz10_0 := blk_frozen BK921.out 0
        have hfz10_1 := blk_frozen BK921.out 1
        have p923 : 0 ≤ (12 : Int) := (by omega)
        have q923 : 12 < (l0_1.length : Int) := of_decide_eq_true (by first | (with_reducible assumption) | assumption)
        obtain ⟨ad923, e923, hx923_0⟩ := Kd.at_int HR0_1.out 12 p923 q923
        cases e923
        (try simp only [show (12 : Int).toNat = 12 from rfl, Nat.reduceMul, Nat.reduceEqDiff, Go.Addr.add, ↓reduceIte] at hx923_0)
        have qi923 : (12 < l0_1.length) = True := eq_true (by omega)
        (try rw [show ((12 : Int)).toNat = 12 from rfl] at hx923_0)
        replace hx923_0 := hc HB hx923_0
        replace p923 := eq_true p923
        replace q923 := eq_true q923
        go_wp2
        go_meet
        case rel => exact ⟨_, (wrap64 (13 + (wrap64 (3 * (wrap64 (rd l0_1 12)))))), (by first | rfl | (simp; done) | (simp [*]; done)), H', ⟨by first | omega | exact Nat.le_refl _⟩, ⟨by (with_reducible repeat (first | refine blk_drewN ?_ _ | refine blk_drew ?_ | refine blk_alloc ?_ _)); exact BK921.out⟩, ⟨by (with_reducible repeat (first | refine blk_drewN ?_ _ | refine blk_drew ?_ | refine blk_alloc ?_ _)); exact BK922.out⟩, ⟨by repeat (first | (with_reducible first | exact HB.out | apply below_alloc | apply pw_below_drewN | apply below_drew1 | refine below_set ?_ GE921.out | refine below_set ?_ GE922.out) | exact HB.out)⟩⟩
      · rw [if_neg c8] at H
        exact absurd H (by simp)
    · rw [if_neg c7] at H
      have c7b0 : decide (13 ≤ (l0_1.length : Int)) = false := decide_eq_false c7
      have c7b1 : decide (13 ≤ l0_1.length) = false := decide_eq_false (by omega)
      clear c7
      (first | rw [c7b0] | (simp only [i64_w, i32_w]; rw [c7b0]) | skip)
      have H' := Aside0.mk H
      clear H
      go_wp2
      go_meet
      case rel => exact ⟨_, (13), (by first | rfl | (simp; done) | (simp [*]; done)), H', ⟨by first | omega | exact Nat.le_refl _⟩, ⟨by (with_reducible repeat (first | refine blk_drewN ?_ _ | refine blk_drew ?_ | refine blk_alloc ?_ _)); exact BK921.out⟩, ⟨by (with_reducible repeat (first | refine blk_drewN ?_ _ | refine blk_drew ?_ | refine blk_alloc ?_ _)); exact BK922.out⟩, ⟨by repeat (first | (with_reducible first | exact HB.out | apply below_alloc | apply pw_below_drewN | apply below_drew1 | refine below_set ?_ GE921.out | refine below_set ?_ GE922.out) | exact HB.out)⟩⟩
  case rest =>
    clear HC2
    try clear p2
    try clear c4
    try clear c5
    try clear p6
    try clear c7
    try clear c7b0
    try clear c7b1
    try clear c8
    try clear c8b0
    try clear c8b1
    try clear c9
    try clear p9
    try clear q9
    try clear hx9
    try clear qi9
    try clear hcz10_0
    try clear hcz10_1
    try clear hcz6_0
    try clear hcz6_1
    try clear hfz10_0
    try clear hfz10_1
    try clear hfz6_0
    try clear hfz6_1
    try clear hx923_0
    try clear p923
    try clear q923
    obtain ⟨kq, x4_1, rfl, HA, HJ1, BK921, BK922, HB⟩ := hcut
    cases kq with
    | zero => exact absurd HA.out (by simp [waveletref29_ParseSize.j0])
    | succ kj1 =>
      have H := HA.out
      clear HA
      simp only [waveletref29_ParseSize.j0] at H
      replace H := Option.bind_eq_some_iff.mp H
      obtain ⟨t924, A110, H⟩ := H
      replace H : (if t924 = 0 then ((waveletref29_get.f kj1 l0_1 0 2).bind fun t925 => ((waveletref29_get.f kj1 l0_1 2 2).bind fun t926 => ((waveletref29_get.f kj1 l0_1 4 2).bind fun t927 => ((waveletref29_get.f kj1 l0_1 6 2).bind fun t928 => ((waveletref29_get.f kj1 l0_1 8 2).bind fun t929 => ((waveletref29_get.f kj1 l0_1 10 2).bind fun t930 => (waveletref29_ParseSize.l0 kj1 x4_1 l0_1 13 t925 t926 t927 t928 t929 t930 ([] : List (S97))))))))) else (some (0, 0, 0, 0, 0, 0, ([] : List (S97)), t924))) = some (r1, r2, r3, r4, r5, r6, r7, r8) := H
      have A11 := Aside0.mk A110
      clear A110
      by_cases c12 : t924 = 0
      · rw [if_pos c12] at H
        have c12b0 : (t924 == 0) = true := beq_iff_eq.mpr c12
        have c12b1 : (t924 != 0) = false := bne_eq_false_iff_eq.mpr c12
        clear c12
        replace H := Option.bind_eq_some_iff.mp H
        obtain ⟨t925, A130, H⟩ := H
        replace H : ((waveletref29_get.f kj1 l0_1 2 2).bind fun t926 => ((waveletref29_get.f kj1 l0_1 4 2).bind fun t927 => ((waveletref29_get.f kj1 l0_1 6 2).bind fun t928 => ((waveletref29_get.f kj1 l0_1 8 2).bind fun t929 => ((waveletref29_get.f kj1 l0_1 10 2).bind fun t930 => (waveletref29_ParseSize.l0 kj1 x4_1 l0_1 13 t925 t926 t927 t928 t929 t930 ([] : List (S97)))))))) = some (r1, r2, r3, r4, r5, r6, r7, r8) := H
        have A13 := Aside0.mk A130
        clear A130
        replace H := Option.bind_eq_some_iff.mp H
        obtain ⟨t926, A140, H⟩ := H
        replace H : ((waveletref29_get.f kj1 l0_1 4 2).bind fun t927 => ((waveletref29_get.f kj1 l0_1 6 2).bind fun t928 => ((waveletref29_get.f kj1 l0_1 8 2).bind fun t929 => ((waveletref29_get.f kj1 l0_1 10 2).bind fun t930 => (waveletref29_ParseSize.l0 kj1 x4_1 l0_1 13 t925 t926 t927 t928 t929 t930 ([] : List (S97))))))) = some (r1, r2, r3, r4, r5, r6, r7, r8) := H
        have A14 := Aside0.mk A140
        clear A140
        replace H := Option.bind_eq_some_iff.mp H
        obtain ⟨t927, A150, H⟩ := H
        replace H : ((waveletref29_get.f kj1 l0_1 6 2).bind fun t928 => ((waveletref29_get.f kj1 l0_1 8 2).bind fun t929 => ((waveletref29_get.f kj1 l0_1 10 2).bind fun t930 => (waveletref29_ParseSize.l0 kj1 x4_1 l0_1 13 t925 t926 t927 t928 t929 t930 ([] : List (S97)))))) = some (r1, r2, r3, r4, r5, r6, r7, r8) := H
        have A15 := Aside0.mk A150
        clear A150
        replace H := Option.bind_eq_some_iff.mp H
        obtain ⟨t928, A160, H⟩ := H
        replace H : ((waveletref29_get.f kj1 l0_1 8 2).bind fun t929 => ((waveletref29_get.f kj1 l0_1 10 2).bind fun t930 => (waveletref29_ParseSize.l0 kj1 x4_1 l0_1 13 t925 t926 t927 t928 t929 t930 ([] : List (S97))))) = some (r1, r2, r3, r4, r5, r6, r7, r8) := H
        have A16 := Aside0.mk A160
        clear A160
        replace H := Option.bind_eq_some_iff.mp H
        obtain ⟨t929, A170, H⟩ := H
        replace H : ((waveletref29_get.f kj1 l0_1 10 2).bind fun t930 => (waveletref29_ParseSize.l0 kj1 x4_1 l0_1 13 t925 t926 t927 t928 t929 t930 ([] : List (S97)))) = some (r1, r2, r3, r4, r5, r6, r7, r8) := H
        have A17 := Aside0.mk A170
        clear A170
        replace H := Option.bind_eq_some_iff.mp H
        obtain ⟨t930, A180, H⟩ := H
        replace H : (waveletref29_ParseSize.l0 kj1 x4_1 l0_1 13 t925 t926 t927 t928 t929 t930 ([] : List (S97))) = some (r1, r2, r3, r4, r5, r6, r7, r8) := H
        have A18 := Aside0.mk A180
        clear A180
        have H' := Aside0.mk H
        clear H
        have hnb19 := NB921_922.out
        have hnc19 := NB922_921.out
        have hcz20_0 : wc.cell? ⟨gb921, 0, none⟩ = some (.int .i64 a0_0) := bc BK921 0
        have hcz20_1 : wc.cell? ⟨gb921, 1, none⟩ = some (.slice A0_1 l0_1.length c0_1) := bc BK921 1
        have hfz20_0 := blk_frozen BK921.out 0
        have hfz20_1 := blk_frozen BK921.out 1
        go_wp2_with (first | ((with_reducible refine gate_callee (f := 50) rfl ?_); refine goesL_ (some 23) rfl rfl Try.func50 (by kernel_rfl) rfl #[.agg #[.int .i64 a0_0, .slice A0_1 l0_1.length c0_1], .int .i64 65441, .int .i64 x4_1] rfl upL ?_; (with_reducible refine (waveletref29_framed.calls a0_0 _ _ l0_1 65441 x4_1 t924 _ ?side1 ?side2 A11.out).mono ?_); (case side1 => repeat (first | exact (Kd.C_below HR0_1.out HB.out) | (with_reducible refine Kd.C_alloc ?_ _) | (with_reducible refine Kd.C_drewN ?_ _) | (with_reducible refine Kd.C_drew ?_))); (case side2 => exact HC0_1.out); rintro e w21 ⟨rfl, hb⟩; refine ⟨_, rfl, ?_⟩; replace BK921 := Aside0.mk (blk_below (g := gb921) (o := .cells #[.int .i64 a0_0, .slice A0_1 l0_1.length c0_1] 26 (0, 0)) (upK BK921.out) hb); replace BK922 := Aside0.mk (blk_below (g := gb922) (o := .cells #[.int .i64 0, .int .i64 0, .int .i64 0, .int .i64 0, .int .i64 0, .int .i64 0, .slice none 0 0] 67 (0, 0)) (upK BK922.out) hb); replace HB := Aside0.mk (below_step (upB HB.out) hb); (try clear hb; try clear hb2; try clear hk; try clear hi); have hcz22_0 : w21.cell? ⟨gb921, 0, none⟩ = some (.int .i64 a0_0) := bc BK921 0; have hcz22_1 : w21.cell? ⟨gb921, 1, none⟩ = some (.slice A0_1 l0_1.length c0_1) := bc BK921 1; have hfz22_0 := blk_frozen BK921.out 0; have hfz22_1 := blk_frozen BK921.out 1) | ((with_reducible refine gate_callee (f := 51) rfl ?_); refine goesL_ (some 31) rfl rfl Try.func51 (by kernel_rfl) rfl #[.slice A0_1 l0_1.length c0_1, .int .i64 0, .int .i64 2] rfl upL ?_; (with_reducible refine (waveletref29_get.calls kj1 _ _ l0_1 0 2 t925 _ ?side1 ?side2 A13.out).mono ?_); (case side1 => repeat (first | exact (Kd.C_below HR0_1.out HB.out) | (with_reducible refine Kd.C_alloc ?_ _) | (with_reducible refine Kd.C_drewN ?_ _) | (with_reducible refine Kd.C_drew ?_))); (case side2 => exact HC0_1.out); rintro e w' ⟨rfl, ⟨nd, rfl⟩⟩; refine ⟨_, rfl, ?_⟩; (try (rw [drewN_self w21]; generalize hq_ : World.drewN w21 _ = w21; have n0_ : Aside0 (w21.heap[gb921]? = some (.cells #[.int .i64 a0_0, .slice A0_1 l0_1.length c0_1] 26 (0, 0))) := ⟨by rw [← hq_]; exact (upK BK921.out)⟩; have n1_ : Aside0 (w21.heap[gb922]? = some (.cells #[.int .i64 0, .int .i64 0, .int .i64 0, .int .i64 0, .int .i64 0, .int .i64 0, .slice none 0 0] 67 (0, 0))) := ⟨by rw [← hq_]; exact (upK BK922.out)⟩; have n2_ : Aside0 (Below w.heap.size w w21) := ⟨by rw [← hq_]; exact (upB HB.out)⟩; clear BK921 BK922 HB hq_; have BK921 := n0_; have BK922 := n1_; have HB := n2_; clear n0_ n1_ n2_))) | ((with_reducible refine gate_callee (f := 51) rfl ?_); refine goesL_ (some 33) rfl rfl Try.func51 (by kernel_rfl) rfl #[.slice A0_1 l0_1.length c0_1, .int .i64 2, .int .i64 2] rfl upL ?_; (with_reducible refine (waveletref29_get.calls kj1 _ _ l0_1 2 2 t926 _ ?side1 ?side2 A14.out).mono ?_); (case side1 => repeat (first | exact (Kd.C_below HR0_1.out HB.out) | (with_reducible refine Kd.C_alloc ?_ _) | (with_reducible refine Kd.C_drewN ?_ _) | (with_reducible refine Kd.C_drew ?_))); (case side2 => exact HC0_1.out); rintro e w' ⟨rfl, ⟨nd, rfl⟩⟩; refine ⟨_, rfl, ?_⟩; (try (rw [drewN_self w21]; generalize hq_ : World.drewN w21 _ = w21; have n0_ : Aside0 (w21.heap[gb921]? = some (.cells #[.int .i64 a0_0, .slice A0_1 l0_1.length c0_1] 26 (0, 0))) := ⟨by rw [← hq_]; exact (upK BK921.out)⟩; have n1_ : Aside0 (w21.heap[gb922]? = some (.cells #[.int .i64 0, .int .i64 0, .int .i64 0, .int .i64 0, .int .i64 0, .int .i64 0, .slice none 0 0] 67 (0, 0))) := ⟨by rw [← hq_]; exact (upK BK922.out)⟩; have n2_ : Aside0 (Below w.heap.size w w21) := ⟨by rw [← hq_]; exact (upB HB.out)⟩; clear BK921 BK922 HB hq_; have BK921 := n0_; have BK922 := n1_; have HB := n2_; clear n0_ n1_ n2_))) | ((with_reducible refine gate_callee (f := 51) rfl ?_); refine goesL_ (some 35) rfl rfl Try.func51 (by kernel_rfl) rfl #[.slice A0_1 l0_1.length c0_1, .int .i64 4, .int .i64 2] rfl upL ?_; (with_reducible refine (waveletref29_get.calls kj1 _ _ l0_1 4 2 t927 _ ?side1 ?side2 A15.out).mono ?_); (case side1 => repeat (first | exact (Kd.C_below HR0_1.out HB.out) | (with_reducible refine Kd.C_alloc ?_ _) | (with_reducible refine Kd.C_drewN ?_ _) | (with_reducible refine Kd.C_drew ?_))); (case side2 => exact HC0_1.out); rintro e w' ⟨rfl, ⟨nd, rfl⟩⟩; refine ⟨_, rfl, ?_⟩; (try (rw [drewN_self w21]; generalize hq_ : World.drewN w21 _ = w21; have n0_ : Aside0 (w21.heap[gb921]? = some (.cells #[.int .i64 a0_0, .slice A0_1 l0_1.length c0_1] 26 (0, 0))) := ⟨by rw [← hq_]; exact (upK BK921.out)⟩; have n1_ : Aside0 (w21.heap[gb922]? = some (.cells #[.int .i64 0, .int .i64 0, .int .i64 0, .int .i64 0, .int .i64 0, .int .i64 0, .slice none 0 0] 67 (0, 0))) := ⟨by rw [← hq_]; exact (upK BK922.out)⟩; have n2_ : Aside0 (Below w.heap.size w w21) := ⟨by rw [← hq_]; exact (upB HB.out)⟩; clear BK921 BK922 HB hq_; have BK921 := n0_; have BK922 := n1_; have HB := n2_; clear n0_ n1_ n2_))) | ((with_reducible refine gate_callee (f := 51) rfl ?_); refine goesL_ (some 37) rfl rfl Try.func51 (by kernel_rfl) rfl #[.slice A0_1 l0_1.length c0_1, .int .i64 6, .int .i64 2] rfl upL ?_; (with_reducible refine (waveletref29_get.calls kj1 _ _ l0_1 6 2 t928 _ ?side1 ?side2 A16.out).mono ?_); (case side1 => repeat (first | exact (Kd.C_below HR0_1.out HB.out) | (with_reducible refine Kd.C_alloc ?_ _) | (with_reducible refine Kd.C_drewN ?_ _) | (with_reducible refine Kd.C_drew ?_))); (case side2 => exact HC0_1.out); rintro e w' ⟨rfl, ⟨nd, rfl⟩⟩; refine ⟨_, rfl, ?_⟩; (try (rw [drewN_self w21]; generalize hq_ : World.drewN w21 _ = w21; have n0_ : Aside0 (w21.heap[gb921]? = some (.cells #[.int .i64 a0_0, .slice A0_1 l0_1.length c0_1] 26 (0, 0))) := ⟨by rw [← hq_]; exact (upK BK921.out)⟩; have n1_ : Aside0 (w21.heap[gb922]? = some (.cells #[.int .i64 0, .int .i64 0, .int .i64 0, .int .i64 0, .int .i64 0, .int .i64 0, .slice none 0 0] 67 (0, 0))) := ⟨by rw [← hq_]; exact (upK BK922.out)⟩; have n2_ : Aside0 (Below w.heap.size w w21) := ⟨by rw [← hq_]; exact (upB HB.out)⟩; clear BK921 BK922 HB hq_; have BK921 := n0_; have BK922 := n1_; have HB := n2_; clear n0_ n1_ n2_))) | ((with_reducible refine gate_callee (f := 51) rfl ?_); refine goesL_ (some 40) rfl rfl Try.func51 (by kernel_rfl) rfl #[.slice A0_1 l0_1.length c0_1, .int .i64 8, .int .i64 2] rfl upL ?_; (with_reducible refine (waveletref29_get.calls kj1 _ _ l0_1 8 2 t929 _ ?side1 ?side2 A17.out).mono ?_); (case side1 => repeat (first | exact (Kd.C_below HR0_1.out HB.out) | (with_reducible refine Kd.C_alloc ?_ _) | (with_reducible refine Kd.C_drewN ?_ _) | (with_reducible refine Kd.C_drew ?_))); (case side2 => exact HC0_1.out); rintro e w' ⟨rfl, ⟨nd, rfl⟩⟩; refine ⟨_, rfl, ?_⟩; (try (rw [drewN_self w21]; generalize hq_ : World.drewN w21 _ = w21; have n0_ : Aside0 (w21.heap[gb921]? = some (.cells #[.int .i64 a0_0, .slice A0_1 l0_1.length c0_1] 26 (0, 0))) := ⟨by rw [← hq_]; exact (upK BK921.out)⟩; have n1_ : Aside0 (w21.heap[gb922]? = some (.cells #[.int .i64 0, .int .i64 0, .int .i64 0, .int .i64 0, .int .i64 0, .int .i64 0, .slice none 0 0] 67 (0, 0))) := ⟨by rw [← hq_]; exact (upK BK922.out)⟩; have n2_ : Aside0 (Below w.heap.size w w21) := ⟨by rw [← hq_]; exact (upB HB.out)⟩; clear BK921 BK922 HB hq_; have BK921 := n0_; have BK922 := n1_; have HB := n2_; clear n0_ n1_ n2_))) | ((with_reducible refine gate_callee (f := 51) rfl ?_); refine goesL_ (some 42) rfl rfl Try.func51 (by kernel_rfl) rfl #[.slice A0_1 l0_1.length c0_1, .int .i64 10, .int .i64 2] rfl upL ?_; (with_reducible refine (waveletref29_get.calls kj1 _ _ l0_1 10 2 t930 _ ?side1 ?side2 A18.out).mono ?_); (case side1 => repeat (first | exact (Kd.C_below HR0_1.out HB.out) | (with_reducible refine Kd.C_alloc ?_ _) | (with_reducible refine Kd.C_drewN ?_ _) | (with_reducible refine Kd.C_drew ?_))); (case side2 => exact HC0_1.out); rintro e w' ⟨rfl, ⟨nd, rfl⟩⟩; refine ⟨_, rfl, ?_⟩; (try (rw [drewN_self w21]; generalize hq_ : World.drewN w21 _ = w21; have n0_ : Aside0 (w21.heap[gb921]? = some (.cells #[.int .i64 a0_0, .slice A0_1 l0_1.length c0_1] 26 (0, 0))) := ⟨by rw [← hq_]; exact (upK BK921.out)⟩; have n1_ : Aside0 (w21.heap[gb922]? = some (.cells #[.int .i64 0, .int .i64 0, .int .i64 0, .int .i64 0, .int .i64 0, .int .i64 0, .slice none 0 0] 67 (0, 0))) := ⟨by rw [← hq_]; exact (upK BK922.out)⟩; have n2_ : Aside0 (Below w.heap.size w w21) := ⟨by rw [← hq_]; exact (upB HB.out)⟩; clear BK921 BK922 HB hq_; have BK921 := n0_; have BK922 := n1_; have HB := n2_; clear n0_ n1_ n2_))) | ((with_reducible refine gate_dst (N := 7) rfl ?_); refine box_event ?hg (N := 7) ?hd (cs := #[.int .i64 0, .int .i64 0, .int .i64 0, .int .i64 0, .int .i64 0, .int .i64 0, .slice none 0 0]) (t := 67) ?hr ?_; (case hd => rfl); (case hg => rfl); (case hr => first | (go_simp; done) | (go_simp; rfl)); intro gb931 hg w23 hbox hb; have BK931 := Aside0.mk (hbox); have GW931 := Aside0.mk ((by rw [hg]; exact (below_size (upB HB.out)) : w.heap.size ≤ gb931)); have GE931 := Aside0.mk ((by rw [hg]; exact (below_size (upB HB.out)) : w.heap.size ≤ gb931)); replace HB := Aside0.mk (below_step (upB HB.out) hb); have NB921_931 := Aside0.mk ((by rw [hg]; exact Nat.ne_of_lt (blk_lt (upK BK921.out)) : gb921 ≠ gb931)); have NB931_921 := Aside0.mk ((by rw [hg]; exact Nat.ne_of_gt (blk_lt (upK BK921.out)) : gb931 ≠ gb921)); replace BK921 := Aside0.mk (blk_below (g := gb921) (o := .cells #[.int .i64 a0_0, .slice A0_1 l0_1.length c0_1] 26 (0, 0)) (upK BK921.out) hb); have NB922_931 := Aside0.mk ((by rw [hg]; exact Nat.ne_of_lt (blk_lt (upK BK922.out)) : gb922 ≠ gb931)); have NB931_922 := Aside0.mk ((by rw [hg]; exact Nat.ne_of_gt (blk_lt (upK BK922.out)) : gb931 ≠ gb922)); replace BK922 := Aside0.mk (blk_below (g := gb922) (o := .cells #[.int .i64 0, .int .i64 0, .int .i64 0, .int .i64 0, .int .i64 0, .int .i64 0, .slice none 0 0] 67 (0, 0)) (upK BK922.out) hb); clear hb hbox hg; have hnb24 := NB931_921.out; have hnc24 := NB921_931.out; have hnb25 := NB931_922.out; have hnc25 := NB922_931.out; have hcz26_0 : w23.cell? ⟨gb931, 0, none⟩ = some (.int .i64 0) := bc BK931 0; have hcz26_1 : w23.cell? ⟨gb931, 1, none⟩ = some (.int .i64 0) := bc BK931 1; have hcz26_2 : w23.cell? ⟨gb931, 2, none⟩ = some (.int .i64 0) := bc BK931 2; have hcz26_3 : w23.cell? ⟨gb931, 3, none⟩ = some (.int .i64 0) := bc BK931 3; have hcz26_4 : w23.cell? ⟨gb931, 4, none⟩ = some (.int .i64 0) := bc BK931 4; have hcz26_5 : w23.cell? ⟨gb931, 5, none⟩ = some (.int .i64 0) := bc BK931 5; have hcz26_6 : w23.cell? ⟨gb931, 6, none⟩ = some (.slice none 0 0) := bc BK931 6; have hfz26_0 := blk_frozen BK931.out 0; have hfz26_1 := blk_frozen BK931.out 1; have hfz26_2 := blk_frozen BK931.out 2; have hfz26_3 := blk_frozen BK931.out 3; have hfz26_4 := blk_frozen BK931.out 4; have hfz26_5 := blk_frozen BK931.out 5; have hfz26_6 := blk_frozen BK931.out 6))
        go_loopg [8] kj1 (fun kq v8 w' => ∃ (x8_2 : Int) (x932006_2 : List (S97)) (u932006 : Value), v8 = .int .i64 x8_2 ∧ Aside0 (waveletref29_ParseSize.l0 kq x4_1 l0_1 x8_2 t925 t926 t927 t928 t929 t930 x932006_2 = some (r1, r2, r3, r4, r5, r6, r7, r8)) ∧ Aside0 (kq ≤ kj1) ∧ Aside0 (Kd.R k97 97 w' w.heap.size (fun _ => True) u932006 x932006_2) ∧ Aside0 (w'.heap[gb921]? = some (.cells #[.int .i64 a0_0, (.slice A0_1 l0_1.length c0_1)] 26 (0, 0))) ∧ Aside0 (w'.heap[gb922]? = some (.cells #[.int .i64 0, .int .i64 0, .int .i64 0, .int .i64 0, .int .i64 0, .int .i64 0, (.slice none 0 0)] 67 (0, 0))) ∧ Aside0 (w'.heap[gb931]? = some (.cells #[.int .i64 t925, .int .i64 t926, .int .i64 t927, .int .i64 t928, .int .i64 t929, .int .i64 t930, u932006] 67 (0, 0))) ∧ Aside0 (Below w.heap.size w w'))
        case atStart => exact ⟨(13), (([] : List (S97))), (.slice none 0 0), (by first | rfl | (simp; done) | (simp [*]; done)), H', ⟨Nat.le_refl _⟩, ⟨by first | exact Kd.R_nil _ _ _ _ _ | exact Kd.N_nil _ _ _ _ _ | exact Kd.V_nil _ _ _ _ _ | exact Kd.Q_nil _ _ _ _ _ | exact Kd.S_nil _ _ _ _ _⟩, ⟨by (with_reducible repeat (first | refine blk_far ?_ NB921_931.out _ | refine blk_drewN ?_ _ | refine blk_drew ?_ | refine blk_alloc ?_ _)); exact BK921.out⟩, ⟨by (with_reducible repeat (first | refine blk_far ?_ NB922_931.out _ | refine blk_drewN ?_ _ | refine blk_drew ?_ | refine blk_alloc ?_ _)); exact BK922.out⟩, ⟨by (with_reducible repeat (first | refine blk_drewN ?_ _ | refine blk_drew ?_ | refine blk_alloc ?_ _)); refine blk_put (cs := #[.int .i64 t925, .int .i64 t926, .int .i64 t927, .int .i64 t928, .int .i64 t929, .int .i64 t930, .slice none 0 0]) ?_ 6 _ rfl; (with_reducible repeat (first | refine blk_drewN ?_ _ | refine blk_drew ?_ | refine blk_alloc ?_ _)); refine blk_put (cs := #[.int .i64 t925, .int .i64 t926, .int .i64 t927, .int .i64 t928, .int .i64 t929, .int .i64 0, .slice none 0 0]) ?_ 5 _ rfl; (with_reducible repeat (first | refine blk_drewN ?_ _ | refine blk_drew ?_ | refine blk_alloc ?_ _)); refine blk_put (cs := #[.int .i64 t925, .int .i64 t926, .int .i64 t927, .int .i64 t928, .int .i64 0, .int .i64 0, .slice none 0 0]) ?_ 4 _ rfl; (with_reducible repeat (first | refine blk_drewN ?_ _ | refine blk_drew ?_ | refine blk_alloc ?_ _)); refine blk_put (cs := #[.int .i64 t925, .int .i64 t926, .int .i64 t927, .int .i64 0, .int .i64 0, .int .i64 0, .slice none 0 0]) ?_ 3 _ rfl; (with_reducible repeat (first | refine blk_drewN ?_ _ | refine blk_drew ?_ | refine blk_alloc ?_ _)); refine blk_put (cs := #[.int .i64 t925, .int .i64 t926, .int .i64 0, .int .i64 0, .int .i64 0, .int .i64 0, .slice none 0 0]) ?_ 2 _ rfl; (with_reducible repeat (first | refine blk_drewN ?_ _ | refine blk_drew ?_ | refine blk_alloc ?_ _)); refine blk_put (cs := #[.int .i64 t925, .int .i64 0, .int .i64 0, .int .i64 0, .int .i64 0, .int .i64 0, .slice none 0 0]) ?_ 1 _ rfl; (with_reducible repeat (first | refine blk_drewN ?_ _ | refine blk_drew ?_ | refine blk_alloc ?_ _)); refine blk_put (cs := #[.int .i64 0, .int .i64 0, .int .i64 0, .int .i64 0, .int .i64 0, .int .i64 0, .slice none 0 0]) ?_ 0 _ rfl; (with_reducible repeat (first | refine blk_drewN ?_ _ | refine blk_drew ?_ | refine blk_alloc ?_ _)); exact BK931.out⟩, ⟨by repeat (first | (with_reducible first | exact HB.out | apply below_alloc | apply pw_below_drewN | apply below_drew1 | refine below_set ?_ GE921.out | refine below_set ?_ GE922.out | refine below_set ?_ GE931.out) | exact HB.out)⟩⟩
        case round =>
          clear H'
          try clear c1
          try clear c2
          try clear p2
          try clear c4
          try clear c5
          try clear p6
          try clear c7
          try clear c7b0
          try clear c7b1
          try clear c8
          try clear c8b0
          try clear c8b1
          try clear c9
          try clear p9
          try clear q9
          try clear hx9
          try clear qi9
          try clear c12
          try clear c12b0
          try clear c12b1
          try clear c19
          try clear c24
          try clear c25
          try clear hcz10_0
          try clear hcz10_1
          try clear hcz20_0
          try clear hcz20_1
          try clear hcz22_0
          try clear hcz22_1
          try clear hcz26_0
          try clear hcz26_1
          try clear hcz26_2
          try clear hcz26_3
          try clear hcz26_4
          try clear hcz26_5
          try clear hcz26_6
          try clear hcz6_0
          try clear hcz6_1
          try clear hfz10_0
          try clear hfz10_1
          try clear hfz20_0
          try clear hfz20_1
          try clear hfz22_0
          try clear hfz22_1
          try clear hfz26_0
          try clear hfz26_1
          try clear hfz26_2
          try clear hfz26_3
          try clear hfz26_4
          try clear hfz26_5
          try clear hfz26_6
          try clear hfz6_0
          try clear hfz6_1
          try clear hx923_0
          try clear p2
          try clear p6
          try clear p9
          try clear p923
          try clear q9
          try clear q923
          obtain ⟨x8_2, x932006_2, u932006, rfl, HA, HK2, HO_932006, BK921, BK922, BK931, HB⟩ := hrel
          cases gk with
          | zero => exact absurd HA.out (by simp [waveletref29_ParseSize.l0])
          | succ k2 =>
            have H := HA.out
            clear HA
            simp only [waveletref29_ParseSize.l0] at H
            by_cases c27 : x8_2 < x4_1
            · rw [if_pos c27] at H
              have c27b0 : decide (x8_2 < x4_1) = true := decide_eq_true c27
              clear c27
              by_cases c28 : 0 ≤ x8_2
              · rw [if_pos c28] at H
                have c28b0 : decide (0 ≤ x8_2) = true := decide_eq_true c28
                clear c28
                by_cases c29 : x8_2 < (l0_1.length : Int)
                · rw [if_pos c29] at H
                  have c29b0 : decide (x8_2 < (l0_1.length : Int)) = true := decide_eq_true c29
                  clear c29
                  obtain ⟨ji30, hji30⟩ : ∃ j_ : Int, (wrap64 (x8_2 + 1)) = j_ := ⟨_, rfl⟩
                  replace H : (if 0 ≤ (ji30) then (if (ji30) < (l0_1.length : Int) then (if 0 ≤ (wrap64 (x8_2 + 2)) then (if (wrap64 (x8_2 + 2)) < (l0_1.length : Int) then (if x932006_2.length < 4398046511104 then (waveletref29_ParseSize.l0 k2 x4_1 l0_1 (wrap64 (x8_2 + 3)) t925 t926 t927 t928 t929 t930 (x932006_2 ++ [(⟨wrap64 ((Int.tmod (wrap64 (rd l0_1 x8_2)) 128) + 1), decide ((rd l0_1 x8_2) ≥ 128), wrap64 (rd l0_1 (ji30)), wrap64 (rd l0_1 (wrap64 (x8_2 + 2)))⟩ : S97)])) else (none)) else (none)) else (none)) else (none)) else (none)) = some (r1, r2, r3, r4, r5, r6, r7, r8) := by first | (rw [hji30] at H; exact H) | (simp only [hji30] at H ⊢; exact H)
                  have hji30w : (IntKind.i64.wrap (x8_2 + 1)) = ji30 := (i64_w _).trans hji30
                  by_cases c31 : 0 ≤ (ji30)
                  · rw [if_pos c31] at H
                    have c31b0 : decide (0 ≤ (ji30)) = true := decide_eq_true c31
                    clear c31
                    by_cases c32 : (ji30) < (l0_1.length : Int)
                    · rw [if_pos c32] at H
                      have c32b0 : decide ((ji30) < (l0_1.length : Int)) = true := decide_eq_true c32
                      clear c32
                      obtain ⟨ji33, hji33⟩ : ∃ j_ : Int, (wrap64 (x8_2 + 2)) = j_ := ⟨_, rfl⟩
                      replace H : (if 0 ≤ (ji33) then (if (ji33) < (l0_1.length : Int) then (if x932006_2.length < 4398046511104 then (waveletref29_ParseSize.l0 k2 x4_1 l0_1 (wrap64 (x8_2 + 3)) t925 t926 t927 t928 t929 t930 (x932006_2 ++ [(⟨wrap64 ((Int.tmod (wrap64 (rd l0_1 x8_2)) 128) + 1), decide ((rd l0_1 x8_2) ≥ 128), wrap64 (rd l0_1 (ji30)), wrap64 (rd l0_1 (ji33))⟩ : S97)])) else (none)) else (none)) else (none)) = some (r1, r2, r3, r4, r5, r6, r7, r8) := by first | (rw [hji33] at H; exact H) | (simp only [hji33] at H ⊢; exact H)
                      have hji33w : (IntKind.i64.wrap (x8_2 + 2)) = ji33 := (i64_w _).trans hji33
                      by_cases c34 : 0 ≤ (ji33)
                      · rw [if_pos c34] at H
                        have c34b0 : decide (0 ≤ (ji33)) = true := decide_eq_true c34
                        clear c34
                        by_cases c35 : (ji33) < (l0_1.length : Int)
                        · rw [if_pos c35] at H
                          have c35b0 : decide ((ji33) < (l0_1.length : Int)) = true := decide_eq_true c35
                          clear c35
                          by_cases c36 : x932006_2.length < 4398046511104
                          · rw [if_pos c36] at H
                            have LMc36 := Aside0.mk c36
                            clear c36
                            obtain ⟨y936, hy936⟩ : ∃ y_ : List (S97), y_ = (x932006_2 ++ [(⟨wrap64 ((Int.tmod (wrap64 (rd l0_1 x8_2)) 128) + 1), decide ((rd l0_1 x8_2) ≥ 128), wrap64 (rd l0_1 (ji30)), wrap64 (rd l0_1 (ji33))⟩ : S97)]) := ⟨_, rfl⟩
                            replace H : (waveletref29_ParseSize.l0 k2 x4_1 l0_1 (wrap64 (x8_2 + 3)) t925 t926 t927 t928 t929 t930 y936) = some (r1, r2, r3, r4, r5, r6, r7, r8) := by first | (rw [hy936]; with_reducible exact H) | (have H2_ := (Option.bind_some _ _).symm.trans H; rw [hy936]; with_reducible exact H2_) | (have H2_ := (Option.bind_some _ _).symm.trans H; with_reducible exact H2_) | with_reducible exact H | (rw [hy936]; exact H) | exact H
                            have Ny936 := Aside0.mk hy936
                            clear hy936
                            have H' := Aside0.mk H
                            clear H
                            try go_wp2
                            replace HO_932006 := Aside0.mk (Kd.R_drew HO_932006.out)
                            replace BK921 := Aside0.mk (blk_drew BK921.out)
                            replace BK922 := Aside0.mk (blk_drew BK922.out)
                            replace BK931 := Aside0.mk (blk_drew BK931.out)
                            replace HB := Aside0.mk (below_drew1 HB.out)
                            have p932 : 0 ≤ (x8_2 : Int) := of_decide_eq_true (by first | (with_reducible assumption) | assumption)
                            have q932 : x8_2 < (l0_1.length : Int) := of_decide_eq_true (by first | (with_reducible assumption) | assumption)
                            obtain ⟨ad932, e932, hx932_0⟩ := Kd.at_int HR0_1.out x8_2 p932 q932
                            have hw932_0 := hx932_0
                            cases e932
                            replace hx932_0 := hc HB hx932_0
                            replace p932 := eq_true p932
                            replace q932 := eq_true q932
                            have p933 : 0 ≤ (x8_2 : Int) := of_decide_eq_true (by first | (with_reducible assumption) | assumption)
                            have q933 : x8_2 < (l0_1.length : Int) := of_decide_eq_true (by first | (with_reducible assumption) | assumption)
                            obtain ⟨ad933, e933, hx933_0⟩ := Kd.at_int HR0_1.out x8_2 p933 q933
                            have hw933_0 := hx933_0
                            obtain rfl : ad932 = ad933 := (by injection e933)
                            replace hx933_0 := hc HB hx933_0
                            replace p933 := eq_true p933
                            replace q933 := eq_true q933
                            have p934 : 0 ≤ ((ji30) : Int) := of_decide_eq_true (by first | (with_reducible assumption) | assumption)
                            have q934 : (ji30) < (l0_1.length : Int) := of_decide_eq_true (by first | (with_reducible assumption) | assumption)
                            obtain ⟨ad934, e934, hx934_0⟩ := Kd.at_int HR0_1.out (ji30) p934 q934
                            have hw934_0 := hx934_0
                            obtain rfl : ad932 = ad934 := (by injection e934)
                            replace hx934_0 := hc HB hx934_0
                            replace p934 := eq_true p934
                            replace q934 := eq_true q934
                            have p935 : 0 ≤ ((ji33) : Int) := of_decide_eq_true (by first | (with_reducible assumption) | assumption)
                            have q935 : (ji33) < (l0_1.length : Int) := of_decide_eq_true (by first | (with_reducible assumption) | assumption)
                            obtain ⟨ad935, e935, hx935_0⟩ := Kd.at_int HR0_1.out (ji33) p935 q935
                            have hw935_0 := hx935_0
                            obtain rfl : ad932 = ad935 := (by injection e935)
                            replace hx935_0 := hc HB hx935_0
                            replace p935 := eq_true p935
                            replace q935 := eq_true q935
                            refine start_ (n := 31) (S := fun w' => w'.cell? ⟨gb931, 0, none⟩ = some (.int .i64 t925) ∧ w'.cell? ⟨gb931, 1, none⟩ = some (.int .i64 t926) ∧ w'.cell? ⟨gb931, 2, none⟩ = some (.int .i64 t927) ∧ w'.cell? ⟨gb931, 3, none⟩ = some (.int .i64 t928) ∧ w'.cell? ⟨gb931, 4, none⟩ = some (.int .i64 t929) ∧ w'.cell? ⟨gb931, 5, none⟩ = some (.int .i64 t930) ∧ w'.cell? ⟨gb931, 6, none⟩ = some (u932006) ∧ w'.cell? (ad932.add (x8_2).toNat) = some (.int .u8 (rd l0_1 x8_2)) ∧ w'.cell? (ad932.add (x8_2).toNat) = some (.int .u8 (rd l0_1 x8_2)) ∧ w'.cell? (ad932.add ((ji30)).toNat) = some (.int .u8 (rd l0_1 (ji30))) ∧ w'.cell? (ad932.add ((ji33)).toNat) = some (.int .u8 (rd l0_1 (ji33)))) (ds := [30]) #[false, false, false, false, false, false, false, false, false, false, false, false, false, false, false, false, false, false, false, false, false, false, false, false, false, false, false, false, false, false, false] (by kernel_rfl) rfl rfl ⟨bc BK931 0, bc BK931 1, bc BK931 2, bc BK931 3, bc BK931 4, bc BK931 5, bc BK931 6, (hc HB hw932_0), (hc HB hw933_0), (hc HB hw934_0), (hc HB hw935_0)⟩ (fun hHeld => ?_); refine with_tabW waveletref29_ParseSize.tab12 waveletref29_ParseSize.bits12 (fun HT_ HW_ => ?_)
                            generalize wr.drew = w37 at HO_932006 BK921 BK922 BK931 HB hx932_0 hx933_0 hx934_0 hx935_0 hHeld ⊢
                            refine puX 0 49 (MK [1, 30]) HT_.out ?_
                            refine puX 2 51 (MK [1, 1, 1, 28]) HT_.out ?_
                            refine puX 3 52 (MK [1, 1, 2, 27]) HT_.out ?_
                            refine puX 4 53 (MK [1, 1, 3, 26]) HT_.out ?_
                            refine puX 9 58 (MK [1, 1, 3, 4, 1, 21]) HT_.out ?_
                            refine puX 10 59 (MK [1, 1, 3, 4, 2, 20]) HT_.out ?_
                            refine puX 11 60 (MK [1, 1, 3, 4, 3, 19]) HT_.out ?_
                            refine puX 14 63 (MK [1, 1, 3, 4, 3, 2, 1, 16]) HT_.out ?_
                            refine puX 15 64 (MK [1, 1, 3, 4, 3, 2, 2, 15]) HT_.out ?_
                            refine puX 16 65 (MK [1, 1, 3, 4, 3, 2, 3, 14]) HT_.out ?_
                            refine puX 17 66 (MK [1, 1, 3, 4, 3, 2, 4, 13]) HT_.out ?_
                            refine puX 20 69 (MK [1, 1, 3, 4, 3, 2, 4, 2, 1, 10]) HT_.out ?_
                            refine puX 21 70 (MK [1, 1, 3, 4, 3, 2, 4, 2, 2, 9]) HT_.out ?_
                            refine puX 22 71 (MK [1, 1, 3, 4, 3, 2, 4, 2, 3, 8]) HT_.out ?_
                            refine puX 23 72 (MK [1, 1, 3, 4, 3, 2, 4, 2, 4, 7]) HT_.out ?_
                            refine taX 1 50 (MK [5, 4, 3, 2, 4, 2, 4, 7]) HT_.out HW_.out hHeld ?_
                            refine taX 5 54 (MK [6, 3, 3, 2, 4, 2, 4, 7]) HT_.out HW_.out hHeld ?_
                            refine puX 6 55 (MK [7, 2, 3, 2, 4, 2, 4, 7]) HT_.out ?_
                            refine puX 7 56 (MK [8, 1, 3, 2, 4, 2, 4, 7]) HT_.out ?_
                            refine puX 8 57 (MK [12, 2, 4, 2, 4, 7]) HT_.out ?_
                            refine taX 12 61 (MK [13, 1, 4, 2, 4, 7]) HT_.out HW_.out hHeld ?_
                            refine puX 13 62 (MK [18, 2, 4, 7]) HT_.out ?_
                            refine taX 18 67 (MK [19, 1, 4, 7]) HT_.out HW_.out hHeld ?_
                            refine puX 19 68 (MK [24, 7]) HT_.out ?_
                            refine taX 24 73 (MK [25, 6]) HT_.out HW_.out hHeld ?_
                            refine puX 25 74 (MK [26, 5]) HT_.out ?_
                            refine puX 26 75 (MK [27, 4]) HT_.out ?_
                            refine onX 27 76 (MK [28, 3]) HT_.out (fun K hK => ?_)
                            refine value_ (w1 := ?_) (v := ?_) (by rfl) rfl ?_ ?_
                            rotate_left 2
                            · go_simp
                              constructor
                              · rfl
                              · rfl
                            refine hK.out _ _ ⟨(blk_cell (blk_alloc BK931.out _) 0).trans rfl, (blk_cell (blk_alloc BK931.out _) 1).trans rfl, (blk_cell (blk_alloc BK931.out _) 2).trans rfl, (blk_cell (blk_alloc BK931.out _) 3).trans rfl, (blk_cell (blk_alloc BK931.out _) 4).trans rfl, (blk_cell (blk_alloc BK931.out _) 5).trans rfl, (blk_cell (blk_alloc BK931.out _) 6).trans rfl, (World.cell?_alloc_lt _ _ _ (World.block_lt_of_cell? _ _ ((hc HB hw932_0)))).trans ((hc HB hw932_0)), (World.cell?_alloc_lt _ _ _ (World.block_lt_of_cell? _ _ ((hc HB hw933_0)))).trans ((hc HB hw933_0)), (World.cell?_alloc_lt _ _ _ (World.block_lt_of_cell? _ _ ((hc HB hw934_0)))).trans ((hc HB hw934_0)), (World.cell?_alloc_lt _ _ _ (World.block_lt_of_cell? _ _ ((hc HB hw935_0)))).trans ((hc HB hw935_0))⟩ (fun hHeld => ?_)
                            clear hK K
                            refine noX ?_
                            refine onX 28 77 (MK [29, 2]) HT_.out (fun K hK => ?_)
                            refine Kd.R_append_step k97 (w0 := w) w.heap.size (by rfl) (.tmp 50) (.tmp 76) 65 97 (.agg #[(.int .i64 0), (.bool false), (.int .i64 0), (.int .i64 0)]) 32 rfl Try.underlying65 info97 rfl (by decide) (by omega) u932006 x932006_2 (⟨wrap64 ((Int.tmod (wrap64 (rd l0_1 x8_2)) 128) + 1), decide ((rd l0_1 x8_2) ≥ 128), wrap64 (rd l0_1 (ji30)), wrap64 (rd l0_1 (ji33))⟩ : S97) [.int .i64 (wrap64 ((Int.tmod (wrap64 (rd l0_1 x8_2)) 128) + 1)), .bool (decide ((rd l0_1 x8_2) ≥ 128)), .int .i64 (wrap64 (rd l0_1 (ji30))), .int .i64 (wrap64 (rd l0_1 (ji33)))] (fun _ => True) (fun _ => False) rfl rfl ?aP (fun _ hk => hk.elim) ?aF ?aO ?aB ?aS ?aL ?_
                            (case aP => exact k97_mkM _ _ _ (⟨wrap64 ((Int.tmod (wrap64 (rd l0_1 x8_2)) 128) + 1), decide ((rd l0_1 x8_2) ≥ 128), wrap64 (rd l0_1 (ji30)), wrap64 (rd l0_1 (ji33))⟩ : S97))
                            (case aB => exact (upB HB.out))
                            (case aF => exact (fun _ _ => trivial))
                            (case aO => exact (upR HO_932006.out))
                            (case aS => exact (below_size (upB HB.out)))
                            (case aL => have := LMc36.out; omega)
                            intro v937 w38 ho hb hg hat
                            rw [← Ny936.out] at ho
                            have n0_ := Aside0.mk (blk_grown (g := gb921) (o := .cells #[.int .i64 a0_0, .slice (some ad932) l0_1.length c0_1] 26 (0, 0)) (upK BK921.out) hg (Kd.R_ne HO_932006.out BK921.out (by decide)))
                            have n1_ := Aside0.mk (blk_grown (g := gb922) (o := .cells #[.int .i64 0, .int .i64 0, .int .i64 0, .int .i64 0, .int .i64 0, .int .i64 0, .slice none 0 0] 67 (0, 0)) (upK BK922.out) hg (Kd.R_ne HO_932006.out BK922.out (by decide)))
                            have n2_ := Aside0.mk (blk_grown (g := gb931) (o := .cells #[.int .i64 t925, .int .i64 t926, .int .i64 t927, .int .i64 t928, .int .i64 t929, .int .i64 t930, u932006] 67 (0, 0)) (upK BK931.out) hg (Kd.R_ne HO_932006.out BK931.out (by decide)))
                            have n3_ := Aside0.mk (hb)
                            have n4_ := Aside0.mk (ho)
                            clear BK921
                            clear BK922
                            clear BK931
                            clear HB
                            clear HO_932006
                            have BK921 := n0_
                            have BK922 := n1_
                            have BK931 := n2_
                            have HB := n3_
                            have HO938 := n4_
                            clear n0_ n1_ n2_ n3_ n4_
                            clear ho hb hg hat
                            obtain ⟨Ao39, co39, eo39⟩ := Kd.R_slice HO938.out
                            (first | subst eo39 | (injection eo39 with f1_ f2_ f3_; have f4_ := f1_.symm; have f5_ := f3_.symm; clear f1_ f2_ f3_; subst f4_; subst f5_))
                            refine hK.out _ _ ⟨bc BK931 0, bc BK931 1, bc BK931 2, bc BK931 3, bc BK931 4, bc BK931 5, bc BK931 6, (hc HB hw932_0), (hc HB hw933_0), (hc HB hw934_0), (hc HB hw935_0)⟩ (fun hHeld => ?_)
                            clear hK K
                            refine noX ?_
                            refine puX 29 78 (MK [30, 1]) HT_.out ?_
                            refine last_ (i := 30) (N := none) #[true, true, true, true, true, true, true, true, true, true, true, true, true, true, true, true, true, true, true, true, true, true, true, true, true, true, true, true, true, true, true] rfl rfl (one_of HT_.out (by kernel_rfl)) (by decide) (fun K hK => ?_)
                            have hs40 : w38.cell? ⟨gb931, 6, none⟩ = some (u932006) := bc BK931 6
                            have hfs40 := blk_frozen BK931.out 6
                            have hns40_0 := NB921_931.out
                            have hns40_1 := NB922_931.out
                            have hms40_0 := NB931_921.out
                            have hms40_1 := NB931_922.out
                            refine skip_ (w1 := ?_) (by rfl) rfl ?_ ?_
                            rotate_left
                            · go_simp
                              rfl
                            refine hK.out _ _ ?_
                            clear hK K
                            refine done_ (done_of HT_.out (by kernel_rfl)) ?_
                            try go_wp2
                            go_roundg k2
                            case measure => have := HJ1.out; have := HK2.out; omega
                            case rel => exact ⟨(wrap64 (x8_2 + 3)), (y936), (.slice Ao39 y936.length co39), (by first | rfl | (simp; done) | (simp [*]; done)), H', ⟨by have := HJ1.out; have := HK2.out; omega⟩, ⟨by (with_reducible repeat (first | apply Kd.R_alloc | apply Kd.R_drewN | apply Kd.R_drew)); exact Kd.R_mono (Kd.R_far (Kd.R_types HO938.out BK931.out (by decide)) (fun _ hk => hk.2) _) (fun _ hk => trivial)⟩, ⟨by (with_reducible repeat (first | refine blk_drewN ?_ _ | refine blk_drew ?_ | refine blk_alloc ?_ _)); refine blk_far ?_ NB921_931.out _; (with_reducible repeat (first | refine blk_drewN ?_ _ | refine blk_drew ?_ | refine blk_alloc ?_ _)); exact BK921.out⟩, ⟨by (with_reducible repeat (first | refine blk_drewN ?_ _ | refine blk_drew ?_ | refine blk_alloc ?_ _)); refine blk_far ?_ NB922_931.out _; (with_reducible repeat (first | refine blk_drewN ?_ _ | refine blk_drew ?_ | refine blk_alloc ?_ _)); exact BK922.out⟩, ⟨by (with_reducible repeat (first | refine blk_drewN ?_ _ | refine blk_drew ?_ | refine blk_alloc ?_ _)); refine blk_put (cs := #[.int .i64 t925, .int .i64 t926, .int .i64 t927, .int .i64 t928, .int .i64 t929, .int .i64 t930, u932006]) ?_ 6 _ rfl; (with_reducible repeat (first | refine blk_drewN ?_ _ | refine blk_drew ?_ | refine blk_alloc ?_ _)); exact BK931.out⟩, ⟨by repeat (first | (with_reducible first | exact HB.out | apply below_alloc | apply pw_below_drewN | apply below_drew1 | refine below_set ?_ GE921.out | refine below_set ?_ GE922.out | refine below_set ?_ GE931.out) | exact HB.out)⟩⟩
                          · rw [if_neg c36] at H
                            exact absurd H (by simp)
                        · rw [if_neg c35] at H
                          exact absurd H (by simp)
                      · rw [if_neg c34] at H
                        exact absurd H (by simp)
                    · rw [if_neg c32] at H
                      exact absurd H (by simp)
                  · rw [if_neg c31] at H
                    exact absurd H (by simp)
                · rw [if_neg c29] at H
                  exact absurd H (by simp)
              · rw [if_neg c28] at H
                exact absurd H (by simp)
            · rw [if_neg c27] at H
              have c27b0 : decide (x8_2 < x4_1) = false := decide_eq_false c27
              clear c27
              replace H := Option.bind_eq_some_iff.mp H
              obtain ⟨t939, A410, H⟩ := H
              replace H : (if t939 = 0 then (some (t925, t926, t927, t928, t929, t930, x932006_2, 0)) else (some (0, 0, 0, 0, 0, 0, ([] : List (S97)), t939))) = some (r1, r2, r3, r4, r5, r6, r7, r8) := H
              have A41 := Aside0.mk A410
              clear A410
              by_cases c42 : t939 = 0
              · rw [if_pos c42] at H
                have c42b0 : (t939 == 0) = true := beq_iff_eq.mpr c42
                have c42b1 : (t939 != 0) = false := bne_eq_false_iff_eq.mpr c42
                clear c42
                simp only [Option.some.injEq, Prod.mk.injEq] at H
                obtain ⟨rfl, rfl, rfl, rfl, rfl, rfl, rfl, rfl⟩ := H
                have hnb43 := NB931_921.out
                have hnc43 := NB921_931.out
                have hnb44 := NB931_922.out
                have hnc44 := NB922_931.out
                have hcz45_0 : wr.cell? ⟨gb931, 0, none⟩ = some (.int .i64 t925) := bc BK931 0
                have hcz45_1 : wr.cell? ⟨gb931, 1, none⟩ = some (.int .i64 t926) := bc BK931 1
                have hcz45_2 : wr.cell? ⟨gb931, 2, none⟩ = some (.int .i64 t927) := bc BK931 2
                have hcz45_3 : wr.cell? ⟨gb931, 3, none⟩ = some (.int .i64 t928) := bc BK931 3
                have hcz45_4 : wr.cell? ⟨gb931, 4, none⟩ = some (.int .i64 t929) := bc BK931 4
                have hcz45_5 : wr.cell? ⟨gb931, 5, none⟩ = some (.int .i64 t930) := bc BK931 5
                have hcz45_6 : wr.cell? ⟨gb931, 6, none⟩ = some (u932006) := bc BK931 6
                have hfz45_0 := blk_frozen BK931.out 0
                have hfz45_1 := blk_frozen BK931.out 1
                have hfz45_2 := blk_frozen BK931.out 2
                have hfz45_3 := blk_frozen BK931.out 3
                have hfz45_4 := blk_frozen BK931.out 4
                have hfz45_5 := blk_frozen BK931.out 5
                have hfz45_6 := blk_frozen BK931.out 6
                obtain ⟨Ao46, co46, eo46⟩ := Kd.R_slice HO_932006.out
                subst eo46
                go_wp2_with (first | ((with_reducible refine gate_callee (f := 61) rfl ?_); refine goesL_ (some 80) rfl rfl Try.func61 (by kernel_rfl) rfl #[.agg #[.int .i64 t925, .int .i64 t926, .int .i64 t927, .int .i64 t928, .int .i64 t929, .int .i64 t930, .slice Ao46 x932006_2.length co46]] rfl upL ?_; (with_reducible refine (waveletref23_Header.calls k2 t925 t926 t927 t928 t929 t930 _ _ x932006_2 t939 _ ?side1 ?side2 A41.out).mono ?_); (case side1 => repeat (first | exact (Kd.R_reads' HO_932006.out).2.2 | (with_reducible refine Kd.C_alloc ?_ _) | (with_reducible refine Kd.C_drewN ?_ _) | (with_reducible refine Kd.C_drew ?_))); (case side2 => exact (Kd.R_reads' HO_932006.out).2.1); rintro e w47 ⟨rfl, hb⟩; refine ⟨_, rfl, ?_⟩; replace HO_932006 := Aside0.mk (Kd.R_below (upR HO_932006.out) hb); replace BK921 := Aside0.mk (blk_below (g := gb921) (o := .cells #[.int .i64 a0_0, .slice A0_1 l0_1.length c0_1] 26 (0, 0)) (upK BK921.out) hb); replace BK922 := Aside0.mk (blk_below (g := gb922) (o := .cells #[.int .i64 0, .int .i64 0, .int .i64 0, .int .i64 0, .int .i64 0, .int .i64 0, .slice none 0 0] 67 (0, 0)) (upK BK922.out) hb); replace BK931 := Aside0.mk (blk_below (g := gb931) (o := .cells #[.int .i64 t925, .int .i64 t926, .int .i64 t927, .int .i64 t928, .int .i64 t929, .int .i64 t930, .slice Ao46 x932006_2.length co46] 67 (0, 0)) (upK BK931.out) hb); replace HB := Aside0.mk (below_step (upB HB.out) hb); (try clear hb; try clear hb2; try clear hk; try clear hi); have hcz48_0 : w47.cell? ⟨gb931, 0, none⟩ = some (.int .i64 t925) := bc BK931 0; have hcz48_1 : w47.cell? ⟨gb931, 1, none⟩ = some (.int .i64 t926) := bc BK931 1; have hcz48_2 : w47.cell? ⟨gb931, 2, none⟩ = some (.int .i64 t927) := bc BK931 2; have hcz48_3 : w47.cell? ⟨gb931, 3, none⟩ = some (.int .i64 t928) := bc BK931 3; have hcz48_4 : w47.cell? ⟨gb931, 4, none⟩ = some (.int .i64 t929) := bc BK931 4; have hcz48_5 : w47.cell? ⟨gb931, 5, none⟩ = some (.int .i64 t930) := bc BK931 5; have hcz48_6 : w47.cell? ⟨gb931, 6, none⟩ = some (.slice Ao46 x932006_2.length co46) := bc BK931 6; have hfz48_0 := blk_frozen BK931.out 0; have hfz48_1 := blk_frozen BK931.out 1; have hfz48_2 := blk_frozen BK931.out 2; have hfz48_3 := blk_frozen BK931.out 3; have hfz48_4 := blk_frozen BK931.out 4; have hfz48_5 := blk_frozen BK931.out 5; have hfz48_6 := blk_frozen BK931.out 6; have hnb49 := NB922_921.out; have hnc49 := NB921_922.out; have hcz50_0 : w47.cell? ⟨gb922, 0, none⟩ = some (.int .i64 0) := bc BK922 0; have hcz50_1 : w47.cell? ⟨gb922, 1, none⟩ = some (.int .i64 0) := bc BK922 1; have hcz50_2 : w47.cell? ⟨gb922, 2, none⟩ = some (.int .i64 0) := bc BK922 2; have hcz50_3 : w47.cell? ⟨gb922, 3, none⟩ = some (.int .i64 0) := bc BK922 3; have hcz50_4 : w47.cell? ⟨gb922, 4, none⟩ = some (.int .i64 0) := bc BK922 4; have hcz50_5 : w47.cell? ⟨gb922, 5, none⟩ = some (.int .i64 0) := bc BK922 5; have hcz50_6 : w47.cell? ⟨gb922, 6, none⟩ = some (.slice none 0 0) := bc BK922 6; have hfz50_0 := blk_frozen BK922.out 0; have hfz50_1 := blk_frozen BK922.out 1; have hfz50_2 := blk_frozen BK922.out 2; have hfz50_3 := blk_frozen BK922.out 3; have hfz50_4 := blk_frozen BK922.out 4; have hfz50_5 := blk_frozen BK922.out 5; have hfz50_6 := blk_frozen BK922.out 6))
                refine bodyPost_ret (results_ct rfl _ _ gb922 67 #[.int .i64 t925, .int .i64 t926, .int .i64 t927, .int .i64 t928, .int .i64 t929, .int .i64 t930, .slice Ao46 x932006_2.length co46] (0, 0) _ rfl (by (with_reducible repeat (first | refine blk_drewN ?_ _ | refine blk_drew ?_ | refine blk_alloc ?_ _)); refine blk_put (cs := #[.int .i64 t925, .int .i64 t926, .int .i64 t927, .int .i64 t928, .int .i64 t929, .int .i64 t930, .slice none 0 0]) ?_ 6 _ rfl; (with_reducible repeat (first | refine blk_drewN ?_ _ | refine blk_drew ?_ | refine blk_alloc ?_ _)); refine blk_put (cs := #[.int .i64 t925, .int .i64 t926, .int .i64 t927, .int .i64 t928, .int .i64 t929, .int .i64 0, .slice none 0 0]) ?_ 5 _ rfl; (with_reducible repeat (first | refine blk_drewN ?_ _ | refine blk_drew ?_ | refine blk_alloc ?_ _)); refine blk_put (cs := #[.int .i64 t925, .int .i64 t926, .int .i64 t927, .int .i64 t928, .int .i64 0, .int .i64 0, .slice none 0 0]) ?_ 4 _ rfl; (with_reducible repeat (first | refine blk_drewN ?_ _ | refine blk_drew ?_ | refine blk_alloc ?_ _)); refine blk_put (cs := #[.int .i64 t925, .int .i64 t926, .int .i64 t927, .int .i64 0, .int .i64 0, .int .i64 0, .slice none 0 0]) ?_ 3 _ rfl; (with_reducible repeat (first | refine blk_drewN ?_ _ | refine blk_drew ?_ | refine blk_alloc ?_ _)); refine blk_put (cs := #[.int .i64 t925, .int .i64 t926, .int .i64 0, .int .i64 0, .int .i64 0, .int .i64 0, .slice none 0 0]) ?_ 2 _ rfl; (with_reducible repeat (first | refine blk_drewN ?_ _ | refine blk_drew ?_ | refine blk_alloc ?_ _)); refine blk_put (cs := #[.int .i64 t925, .int .i64 0, .int .i64 0, .int .i64 0, .int .i64 0, .int .i64 0, .slice none 0 0]) ?_ 1 _ rfl; (with_reducible repeat (first | refine blk_drewN ?_ _ | refine blk_drew ?_ | refine blk_alloc ?_ _)); refine blk_put (cs := #[.int .i64 0, .int .i64 0, .int .i64 0, .int .i64 0, .int .i64 0, .int .i64 0, .slice none 0 0]) ?_ 0 _ rfl; (with_reducible repeat (first | refine blk_drewN ?_ _ | refine blk_drew ?_ | refine blk_alloc ?_ _)); exact BK922.out) Try.underlying67 rfl (by kernel_rfl)) rfl ?_
                exact ⟨_, by first | rfl | (simp [errW_none, errW_some] <;> rfl) | (simp [*, errW_none, errW_some] <;> rfl), by (with_reducible repeat (first | apply Kd.R_alloc | apply Kd.R_drewN | apply Kd.R_drew)); exact Kd.R_mono (Kd.R_far (Kd.R_far (Kd.R_far (Kd.R_far (Kd.R_far (Kd.R_far (Kd.R_far (Kd.R_types HO_932006.out BK922.out (by decide)) (fun _ hk => hk.2) _) (fun _ hk => hk.2) _) (fun _ hk => hk.2) _) (fun _ hk => hk.2) _) (fun _ hk => hk.2) _) (fun _ hk => hk.2) _) (fun _ hk => hk.2) _) (fun _ hk => trivial), by repeat (first | (with_reducible first | exact HB.out | apply below_alloc | apply pw_below_drewN | apply below_drew1 | refine below_set ?_ GE921.out | refine below_set ?_ GE922.out | refine below_set ?_ GE931.out) | exact HB.out)⟩
              · rw [if_neg c42] at H
                have c42b0 : (t939 == 0) = false := beq_eq_false_iff_ne.mpr c42
                have c42b1 : (t939 != 0) = true := bne_iff_ne.mpr c42
                simp only [Option.some.injEq, Prod.mk.injEq] at H
                obtain ⟨rfl, rfl, rfl, rfl, rfl, rfl, rfl, rfl⟩ := H
                have hnb51 := NB931_921.out
                have hnc51 := NB921_931.out
                have hnb52 := NB931_922.out
                have hnc52 := NB922_931.out
                have hcz53_0 : wr.cell? ⟨gb931, 0, none⟩ = some (.int .i64 t925) := bc BK931 0
                have hcz53_1 : wr.cell? ⟨gb931, 1, none⟩ = some (.int .i64 t926) := bc BK931 1
                have hcz53_2 : wr.cell? ⟨gb931, 2, none⟩ = some (.int .i64 t927) := bc BK931 2
                have hcz53_3 : wr.cell? ⟨gb931, 3, none⟩ = some (.int .i64 t928) := bc BK931 3
                have hcz53_4 : wr.cell? ⟨gb931, 4, none⟩ = some (.int .i64 t929) := bc BK931 4
                have hcz53_5 : wr.cell? ⟨gb931, 5, none⟩ = some (.int .i64 t930) := bc BK931 5
                have hcz53_6 : wr.cell? ⟨gb931, 6, none⟩ = some (u932006) := bc BK931 6
                have hfz53_0 := blk_frozen BK931.out 0
                have hfz53_1 := blk_frozen BK931.out 1
                have hfz53_2 := blk_frozen BK931.out 2
                have hfz53_3 := blk_frozen BK931.out 3
                have hfz53_4 := blk_frozen BK931.out 4
                have hfz53_5 := blk_frozen BK931.out 5
                have hfz53_6 := blk_frozen BK931.out 6
                obtain ⟨Ao54, co54, eo54⟩ := Kd.R_slice HO_932006.out
                subst eo54
                go_wp2_with (first | ((with_reducible refine gate_callee (f := 61) rfl ?_); refine goesL_ (some 80) rfl rfl Try.func61 (by kernel_rfl) rfl #[.agg #[.int .i64 t925, .int .i64 t926, .int .i64 t927, .int .i64 t928, .int .i64 t929, .int .i64 t930, .slice Ao54 x932006_2.length co54]] rfl upL ?_; (with_reducible refine (waveletref23_Header.calls k2 t925 t926 t927 t928 t929 t930 _ _ x932006_2 t939 _ ?side1 ?side2 A41.out).mono ?_); (case side1 => repeat (first | exact (Kd.R_reads' HO_932006.out).2.2 | (with_reducible refine Kd.C_alloc ?_ _) | (with_reducible refine Kd.C_drewN ?_ _) | (with_reducible refine Kd.C_drew ?_))); (case side2 => exact (Kd.R_reads' HO_932006.out).2.1); rintro e w55 ⟨rfl, hb⟩; refine ⟨_, rfl, ?_⟩; replace HO_932006 := Aside0.mk (Kd.R_below (upR HO_932006.out) hb); replace BK921 := Aside0.mk (blk_below (g := gb921) (o := .cells #[.int .i64 a0_0, .slice A0_1 l0_1.length c0_1] 26 (0, 0)) (upK BK921.out) hb); replace BK922 := Aside0.mk (blk_below (g := gb922) (o := .cells #[.int .i64 0, .int .i64 0, .int .i64 0, .int .i64 0, .int .i64 0, .int .i64 0, .slice none 0 0] 67 (0, 0)) (upK BK922.out) hb); replace BK931 := Aside0.mk (blk_below (g := gb931) (o := .cells #[.int .i64 t925, .int .i64 t926, .int .i64 t927, .int .i64 t928, .int .i64 t929, .int .i64 t930, .slice Ao54 x932006_2.length co54] 67 (0, 0)) (upK BK931.out) hb); replace HB := Aside0.mk (below_step (upB HB.out) hb); (try clear hb; try clear hb2; try clear hk; try clear hi); have hnb56 := NB922_921.out; have hnc56 := NB921_922.out; have hcz57_0 : w55.cell? ⟨gb922, 0, none⟩ = some (.int .i64 0) := bc BK922 0; have hcz57_1 : w55.cell? ⟨gb922, 1, none⟩ = some (.int .i64 0) := bc BK922 1; have hcz57_2 : w55.cell? ⟨gb922, 2, none⟩ = some (.int .i64 0) := bc BK922 2; have hcz57_3 : w55.cell? ⟨gb922, 3, none⟩ = some (.int .i64 0) := bc BK922 3; have hcz57_4 : w55.cell? ⟨gb922, 4, none⟩ = some (.int .i64 0) := bc BK922 4; have hcz57_5 : w55.cell? ⟨gb922, 5, none⟩ = some (.int .i64 0) := bc BK922 5; have hcz57_6 : w55.cell? ⟨gb922, 6, none⟩ = some (.slice none 0 0) := bc BK922 6; have hfz57_0 := blk_frozen BK922.out 0; have hfz57_1 := blk_frozen BK922.out 1; have hfz57_2 := blk_frozen BK922.out 2; have hfz57_3 := blk_frozen BK922.out 3; have hfz57_4 := blk_frozen BK922.out 4; have hfz57_5 := blk_frozen BK922.out 5; have hfz57_6 := blk_frozen BK922.out 6))
                refine bodyPost_ret (results_ct rfl _ _ gb922 67 #[.int .i64 0, .int .i64 0, .int .i64 0, .int .i64 0, .int .i64 0, .int .i64 0, .slice none 0 0] (0, 0) _ rfl (by (with_reducible repeat (first | refine blk_drewN ?_ _ | refine blk_drew ?_ | refine blk_alloc ?_ _)); refine blk_put (cs := #[.int .i64 0, .int .i64 0, .int .i64 0, .int .i64 0, .int .i64 0, .int .i64 0, .slice none 0 0]) ?_ 6 _ rfl; (with_reducible repeat (first | refine blk_drewN ?_ _ | refine blk_drew ?_ | refine blk_alloc ?_ _)); refine blk_put (cs := #[.int .i64 0, .int .i64 0, .int .i64 0, .int .i64 0, .int .i64 0, .int .i64 0, .slice none 0 0]) ?_ 5 _ rfl; (with_reducible repeat (first | refine blk_drewN ?_ _ | refine blk_drew ?_ | refine blk_alloc ?_ _)); refine blk_put (cs := #[.int .i64 0, .int .i64 0, .int .i64 0, .int .i64 0, .int .i64 0, .int .i64 0, .slice none 0 0]) ?_ 4 _ rfl; (with_reducible repeat (first | refine blk_drewN ?_ _ | refine blk_drew ?_ | refine blk_alloc ?_ _)); refine blk_put (cs := #[.int .i64 0, .int .i64 0, .int .i64 0, .int .i64 0, .int .i64 0, .int .i64 0, .slice none 0 0]) ?_ 3 _ rfl; (with_reducible repeat (first | refine blk_drewN ?_ _ | refine blk_drew ?_ | refine blk_alloc ?_ _)); refine blk_put (cs := #[.int .i64 0, .int .i64 0, .int .i64 0, .int .i64 0, .int .i64 0, .int .i64 0, .slice none 0 0]) ?_ 2 _ rfl; (with_reducible repeat (first | refine blk_drewN ?_ _ | refine blk_drew ?_ | refine blk_alloc ?_ _)); refine blk_put (cs := #[.int .i64 0, .int .i64 0, .int .i64 0, .int .i64 0, .int .i64 0, .int .i64 0, .slice none 0 0]) ?_ 1 _ rfl; (with_reducible repeat (first | refine blk_drewN ?_ _ | refine blk_drew ?_ | refine blk_alloc ?_ _)); refine blk_put (cs := #[.int .i64 0, .int .i64 0, .int .i64 0, .int .i64 0, .int .i64 0, .int .i64 0, .slice none 0 0]) ?_ 0 _ rfl; (with_reducible repeat (first | refine blk_drewN ?_ _ | refine blk_drew ?_ | refine blk_alloc ?_ _)); exact BK922.out) Try.underlying67 rfl (by kernel_rfl)) rfl ?_
                exact ⟨_, by first | rfl | (simp [errW_none, errW_some] <;> rfl) | (simp [*, errW_none, errW_some] <;> rfl), by first | exact Kd.R_nil _ _ _ _ _ | exact Kd.N_nil _ _ _ _ _ | exact Kd.V_nil _ _ _ _ _ | exact Kd.Q_nil _ _ _ _ _ | exact Kd.S_nil _ _ _ _ _, by repeat (first | (with_reducible first | exact HB.out | apply below_alloc | apply pw_below_drewN | apply below_drew1 | refine below_set ?_ GE921.out | refine below_set ?_ GE922.out | refine below_set ?_ GE931.out) | exact HB.out)⟩
      · rw [if_neg c12] at H
        have c12b0 : (t924 == 0) = false := beq_eq_false_iff_ne.mpr c12
        have c12b1 : (t924 != 0) = true := bne_iff_ne.mpr c12
        simp only [Option.some.injEq, Prod.mk.injEq] at H
        obtain ⟨rfl, rfl, rfl, rfl, rfl, rfl, rfl, rfl⟩ := H
        have hnb58 := NB921_922.out
        have hnc58 := NB922_921.out
        have hcz59_0 : wc.cell? ⟨gb921, 0, none⟩ = some (.int .i64 a0_0) := bc BK921 0
        have hcz59_1 : wc.cell? ⟨gb921, 1, none⟩ = some (.slice A0_1 l0_1.length c0_1) := bc BK921 1
        have hfz59_0 := blk_frozen BK921.out 0
        have hfz59_1 := blk_frozen BK921.out 1
        go_wp2_with (first | ((with_reducible refine gate_callee (f := 50) rfl ?_); refine goesL_ (some 23) rfl rfl Try.func50 (by kernel_rfl) rfl #[.agg #[.int .i64 a0_0, .slice A0_1 l0_1.length c0_1], .int .i64 65441, .int .i64 x4_1] rfl upL ?_; (with_reducible refine (waveletref29_framed.calls a0_0 _ _ l0_1 65441 x4_1 t924 _ ?side1 ?side2 A11.out).mono ?_); (case side1 => repeat (first | exact (Kd.C_below HR0_1.out HB.out) | (with_reducible refine Kd.C_alloc ?_ _) | (with_reducible refine Kd.C_drewN ?_ _) | (with_reducible refine Kd.C_drew ?_))); (case side2 => exact HC0_1.out); rintro e w60 ⟨rfl, hb⟩; refine ⟨_, rfl, ?_⟩; replace BK921 := Aside0.mk (blk_below (g := gb921) (o := .cells #[.int .i64 a0_0, .slice A0_1 l0_1.length c0_1] 26 (0, 0)) (upK BK921.out) hb); replace BK922 := Aside0.mk (blk_below (g := gb922) (o := .cells #[.int .i64 0, .int .i64 0, .int .i64 0, .int .i64 0, .int .i64 0, .int .i64 0, .slice none 0 0] 67 (0, 0)) (upK BK922.out) hb); replace HB := Aside0.mk (below_step (upB HB.out) hb); (try clear hb; try clear hb2; try clear hk; try clear hi); have hcz61_0 : w60.cell? ⟨gb922, 0, none⟩ = some (.int .i64 0) := bc BK922 0; have hcz61_1 : w60.cell? ⟨gb922, 1, none⟩ = some (.int .i64 0) := bc BK922 1; have hcz61_2 : w60.cell? ⟨gb922, 2, none⟩ = some (.int .i64 0) := bc BK922 2; have hcz61_3 : w60.cell? ⟨gb922, 3, none⟩ = some (.int .i64 0) := bc BK922 3; have hcz61_4 : w60.cell? ⟨gb922, 4, none⟩ = some (.int .i64 0) := bc BK922 4; have hcz61_5 : w60.cell? ⟨gb922, 5, none⟩ = some (.int .i64 0) := bc BK922 5; have hcz61_6 : w60.cell? ⟨gb922, 6, none⟩ = some (.slice none 0 0) := bc BK922 6; have hfz61_0 := blk_frozen BK922.out 0; have hfz61_1 := blk_frozen BK922.out 1; have hfz61_2 := blk_frozen BK922.out 2; have hfz61_3 := blk_frozen BK922.out 3; have hfz61_4 := blk_frozen BK922.out 4; have hfz61_5 := blk_frozen BK922.out 5; have hfz61_6 := blk_frozen BK922.out 6))
        refine bodyPost_ret (results_ct rfl _ _ gb922 67 #[.int .i64 0, .int .i64 0, .int .i64 0, .int .i64 0, .int .i64 0, .int .i64 0, .slice none 0 0] (0, 0) _ rfl (by (with_reducible repeat (first | refine blk_drewN ?_ _ | refine blk_drew ?_ | refine blk_alloc ?_ _)); refine blk_put (cs := #[.int .i64 0, .int .i64 0, .int .i64 0, .int .i64 0, .int .i64 0, .int .i64 0, .slice none 0 0]) ?_ 6 _ rfl; (with_reducible repeat (first | refine blk_drewN ?_ _ | refine blk_drew ?_ | refine blk_alloc ?_ _)); refine blk_put (cs := #[.int .i64 0, .int .i64 0, .int .i64 0, .int .i64 0, .int .i64 0, .int .i64 0, .slice none 0 0]) ?_ 5 _ rfl; (with_reducible repeat (first | refine blk_drewN ?_ _ | refine blk_drew ?_ | refine blk_alloc ?_ _)); refine blk_put (cs := #[.int .i64 0, .int .i64 0, .int .i64 0, .int .i64 0, .int .i64 0, .int .i64 0, .slice none 0 0]) ?_ 4 _ rfl; (with_reducible repeat (first | refine blk_drewN ?_ _ | refine blk_drew ?_ | refine blk_alloc ?_ _)); refine blk_put (cs := #[.int .i64 0, .int .i64 0, .int .i64 0, .int .i64 0, .int .i64 0, .int .i64 0, .slice none 0 0]) ?_ 3 _ rfl; (with_reducible repeat (first | refine blk_drewN ?_ _ | refine blk_drew ?_ | refine blk_alloc ?_ _)); refine blk_put (cs := #[.int .i64 0, .int .i64 0, .int .i64 0, .int .i64 0, .int .i64 0, .int .i64 0, .slice none 0 0]) ?_ 2 _ rfl; (with_reducible repeat (first | refine blk_drewN ?_ _ | refine blk_drew ?_ | refine blk_alloc ?_ _)); refine blk_put (cs := #[.int .i64 0, .int .i64 0, .int .i64 0, .int .i64 0, .int .i64 0, .int .i64 0, .slice none 0 0]) ?_ 1 _ rfl; (with_reducible repeat (first | refine blk_drewN ?_ _ | refine blk_drew ?_ | refine blk_alloc ?_ _)); refine blk_put (cs := #[.int .i64 0, .int .i64 0, .int .i64 0, .int .i64 0, .int .i64 0, .int .i64 0, .slice none 0 0]) ?_ 0 _ rfl; (with_reducible repeat (first | refine blk_drewN ?_ _ | refine blk_drew ?_ | refine blk_alloc ?_ _)); exact BK922.out) Try.underlying67 rfl (by kernel_rfl)) rfl ?_
        exact ⟨_, by first | rfl | (simp [errW_none, errW_some] <;> rfl) | (simp [*, errW_none, errW_some] <;> rfl), by first | exact Kd.R_nil _ _ _ _ _ | exact Kd.N_nil _ _ _ _ _ | exact Kd.V_nil _ _ _ _ _ | exact Kd.Q_nil _ _ _ _ _ | exact Kd.S_nil _ _ _ _ _, by repeat (first | (with_reducible first | exact HB.out | apply below_alloc | apply pw_below_drewN | apply below_drew1 | refine below_set ?_ GE921.out | refine below_set ?_ GE922.out) | exact HB.out)⟩

end Go.Proofs.Ytihfopblmjgfaaa.Q

namespace Go.Proofs.Ytihfopblmjgfaaa.Q
open Go.RowKit Go.Proofs.YtihfopblmjgfaaaW.PrintWords Go.Proofs.YtihfopblmjgfaaaW.PrintLast Go.Proofs.YtihfopblmjgfaaaW.PrintMore
attribute [local go_sem] max2_int min2_int max_two min_two max_three min_three max_four min_four   -- for this text's walks alone
set_option linter.unusedVariables false
set_option linter.unusedSimpArgs false

theorem eqA64 (d : Nat) (w : World) (x0 y0 : Int) (x1 y1 : Int) (x2 y2 : Int) (x3 y3 : Int) :
    (Op.equalIn (d + 2) 64 (.agg #[.int .i64 x0, .int .i64 x1, .int .i64 x2, .int .i64 x3]) (.agg #[.int .i64 y0, .int .i64 y1, .int .i64 y2, .int .i64 y3])).run Try.prog w = .ok (x0 == y0 && (x1 == y1 && (x2 == y2 && (x3 == y3)))) w := by
  refine eqA_of Try.underlying64 (by kernel_rfl) ?_
  refine eqf_cons (by rfl) (by go_simp; rfl) (by go_simp; rfl) (by go_simp) ?_
  refine eqf_cons (by rfl) (by go_simp; rfl) (by go_simp; rfl) (by go_simp) ?_
  refine eqf_cons (by rfl) (by go_simp; rfl) (by go_simp; rfl) (by go_simp) ?_
  exact eqf_last (by rfl) (by go_simp; rfl) (by go_simp; rfl) (by go_simp)
end Go.Proofs.Ytihfopblmjgfaaa.Q

namespace Go.Proofs.Ytihfopblmjgfaaa.Q
open Go.RowKit Go.Proofs.YtihfopblmjgfaaaW.PrintWords Go.Proofs.YtihfopblmjgfaaaW.PrintLast Go.Proofs.YtihfopblmjgfaaaW.PrintMore
attribute [local go_sem] max2_int min2_int max_two min_two max_three min_three max_four min_four   -- for this text's walks alone
set_option linter.unusedVariables false
set_option linter.unusedSimpArgs false

theorem eqA97 (d : Nat) (w : World) (x0 y0 : Int) (x1 y1 : Bool) (x2 y2 : Int) (x3 y3 : Int) :
    (Op.equalIn (d + 2) 97 (.agg #[.int .i64 x0, .bool x1, .int .i64 x2, .int .i64 x3]) (.agg #[.int .i64 y0, .bool y1, .int .i64 y2, .int .i64 y3])).run Try.prog w = .ok (x0 == y0 && (x1 == y1 && (x2 == y2 && (x3 == y3)))) w := by
  refine eqA_of Try.underlying97 (by kernel_rfl) ?_
  refine eqf_cons (by rfl) (by go_simp; rfl) (by go_simp; rfl) (by go_simp) ?_
  refine eqf_cons (by rfl) (by go_simp; rfl) (by go_simp; rfl) (by go_simp) ?_
  refine eqf_cons (by rfl) (by go_simp; rfl) (by go_simp; rfl) (by go_simp) ?_
  exact eqf_last (by rfl) (by go_simp; rfl) (by go_simp; rfl) (by go_simp)
end Go.Proofs.Ytihfopblmjgfaaa.Q

namespace Go.Proofs.Ytihfopblmjgfaaa.Q
open Go.RowKit Go.Proofs.YtihfopblmjgfaaaW.PrintWords Go.Proofs.YtihfopblmjgfaaaW.PrintLast Go.Proofs.YtihfopblmjgfaaaW.PrintMore
attribute [local go_sem] max2_int min2_int max_two min_two max_three min_three max_four min_four   -- for this text's walks alone
set_option linter.unusedVariables false
set_option linter.unusedSimpArgs false

attribute [local go_sem high] eqA64 eqA97
/-! ### waveletref23_SameHeader: function 41 -/
mutual
def waveletref23_SameHeader.j0 : Nat → Bool → Int → Int → Int → Int → Int → Int → List (S97) → Int → Int → Int → Int → Int → Int → List (S97) → Option (Bool)
  | 0, _, _, _, _, _, _, _, _, _, _, _, _, _, _, _ => none
  | k + 1, x33, x941000, x941001, x941002, x941003, x941004, x941005, x941006, x942000, x942001, x942002, x942003, x942004, x942005, x942006 => if x33 = true then (some false) else (waveletref23_SameHeader.l0 k 0 x941000 x941001 x941002 x941003 x941004 x941005 x941006 x942000 x942001 x942002 x942003 x942004 x942005 x942006)
def waveletref23_SameHeader.l0 : Nat → Int → Int → Int → Int → Int → Int → Int → List (S97) → Int → Int → Int → Int → Int → Int → List (S97) → Option (Bool)
  | 0, _, _, _, _, _, _, _, _, _, _, _, _, _, _, _ => none
  | k + 1, x5, x941000, x941001, x941002, x941003, x941004, x941005, x941006, x942000, x942001, x942002, x942003, x942004, x942005, x942006 => if x5 < (x941006.length : Int) then (if 0 ≤ x5 then (if x5 < (x942006.length : Int) then (if (!(((rd_T97 x941006 x5).f0) == ((rd_T97 x942006 x5).f0)) || (!(((rd_T97 x941006 x5).f1) == ((rd_T97 x942006 x5).f1)) || (!(((rd_T97 x941006 x5).f2) == ((rd_T97 x942006 x5).f2)) || (!(((rd_T97 x941006 x5).f3) == ((rd_T97 x942006 x5).f3)))))) = true then (some false) else (waveletref23_SameHeader.l0 k (wrap64 (x5 + 1)) x941000 x941001 x941002 x941003 x941004 x941005 x941006 x942000 x942001 x942002 x942003 x942004 x942005 x942006)) else (none)) else (none)) else (some true)
end
def waveletref23_SameHeader.f (k : Nat) (a0_0 : Int) (a0_1 : Int) (a0_2 : Int) (a0_3 : Int) (a0_4 : Int) (a0_5 : Int) (l0_6 : List (S97)) (a1_0 : Int) (a1_1 : Int) (a1_2 : Int) (a1_3 : Int) (a1_4 : Int) (a1_5 : Int) (l1_6 : List (S97)) : Option (Bool) := if (!(a0_0 == a1_0) || (!(a0_1 == a1_1) || (!(a0_2 == a1_2) || (!(a0_3 == a1_3))))) = true then (waveletref23_SameHeader.j0 k true a0_0 a0_1 a0_2 a0_3 a0_4 a0_5 l0_6 a1_0 a1_1 a1_2 a1_3 a1_4 a1_5 l1_6) else (if a0_4 = a1_4 then (if a0_5 = a1_5 then (waveletref23_SameHeader.j0 k ((l0_6.length : Int) != (l1_6.length : Int)) a0_0 a0_1 a0_2 a0_3 a0_4 a0_5 l0_6 a1_0 a1_1 a1_2 a1_3 a1_4 a1_5 l1_6) else (waveletref23_SameHeader.j0 k true a0_0 a0_1 a0_2 a0_3 a0_4 a0_5 l0_6 a1_0 a1_1 a1_2 a1_3 a1_4 a1_5 l1_6)) else (waveletref23_SameHeader.j0 k true a0_0 a0_1 a0_2 a0_3 a0_4 a0_5 l0_6 a1_0 a1_1 a1_2 a1_3 a1_4 a1_5 l1_6))
theorem waveletref23_SameHeader.mono_l : ∀ k, (∀ y0 y1 y2 y3 y4 y5 y6 y7 y8 y9 y10 y11 y12 y13 y14, LeO (waveletref23_SameHeader.j0 k y0 y1 y2 y3 y4 y5 y6 y7 y8 y9 y10 y11 y12 y13 y14) (waveletref23_SameHeader.j0 (k + 1) y0 y1 y2 y3 y4 y5 y6 y7 y8 y9 y10 y11 y12 y13 y14)) ∧ (∀ y0 y1 y2 y3 y4 y5 y6 y7 y8 y9 y10 y11 y12 y13 y14, LeO (waveletref23_SameHeader.l0 k y0 y1 y2 y3 y4 y5 y6 y7 y8 y9 y10 y11 y12 y13 y14) (waveletref23_SameHeader.l0 (k + 1) y0 y1 y2 y3 y4 y5 y6 y7 y8 y9 y10 y11 y12 y13 y14))
  | 0 => ⟨fun _ _ _ _ _ _ _ _ _ _ _ _ _ _ _ r h => by simp [waveletref23_SameHeader.j0] at h, fun _ _ _ _ _ _ _ _ _ _ _ _ _ _ _ r h => by simp [waveletref23_SameHeader.l0] at h⟩
  | k + 1 => by
    obtain ⟨ih0, ih1⟩ := waveletref23_SameHeader.mono_l k
    refine ⟨?_, ?_⟩
    · intro y0 y1 y2 y3 y4 y5 y6 y7 y8 y9 y10 y11 y12 y13 y14
      unfold waveletref23_SameHeader.j0
      repeat' first
      | (with_reducible exact ih0 _ _ _ _ _ _ _ _ _ _ _ _ _ _ _)
      | (with_reducible exact ih1 _ _ _ _ _ _ _ _ _ _ _ _ _ _ _)
      | (with_reducible exact LeO.refl _)
      | (with_reducible exact LeO.none _)
      | (with_reducible refine LeO.ite ?_ ?_)
      | (with_reducible refine LeO.bind ?_ (fun _ => ?_))
      | exact ih0 _ _ _ _ _ _ _ _ _ _ _ _ _ _ _
      | exact ih1 _ _ _ _ _ _ _ _ _ _ _ _ _ _ _
      | exact LeO.none _
      | refine LeO.ite ?_ ?_
      | refine LeO.bind ?_ (fun _ => ?_)
    · intro y0 y1 y2 y3 y4 y5 y6 y7 y8 y9 y10 y11 y12 y13 y14
      unfold waveletref23_SameHeader.l0
      repeat' first
      | (with_reducible exact ih0 _ _ _ _ _ _ _ _ _ _ _ _ _ _ _)
      | (with_reducible exact ih1 _ _ _ _ _ _ _ _ _ _ _ _ _ _ _)
      | (with_reducible exact LeO.refl _)
      | (with_reducible exact LeO.none _)
      | (with_reducible refine LeO.ite ?_ ?_)
      | (with_reducible refine LeO.bind ?_ (fun _ => ?_))
      | exact ih0 _ _ _ _ _ _ _ _ _ _ _ _ _ _ _
      | exact ih1 _ _ _ _ _ _ _ _ _ _ _ _ _ _ _
      | exact LeO.none _
      | refine LeO.ite ?_ ?_
      | refine LeO.bind ?_ (fun _ => ?_)
theorem waveletref23_SameHeader.mono : ∀ a0 a1 a2 a3 a4 a5 a6 a7 a8 a9 a10 a11 a12 a13 k, LeO (waveletref23_SameHeader.f k a0 a1 a2 a3 a4 a5 a6 a7 a8 a9 a10 a11 a12 a13) (waveletref23_SameHeader.f (k + 1) a0 a1 a2 a3 a4 a5 a6 a7 a8 a9 a10 a11 a12 a13) := by
  intro a0 a1 a2 a3 a4 a5 a6 a7 a8 a9 a10 a11 a12 a13 k
  obtain ⟨ih0, ih1⟩ := waveletref23_SameHeader.mono_l k
  unfold waveletref23_SameHeader.f
  repeat' first
      | (with_reducible exact ih0 _ _ _ _ _ _ _ _ _ _ _ _ _ _ _)
      | (with_reducible exact ih1 _ _ _ _ _ _ _ _ _ _ _ _ _ _ _)
      | (with_reducible exact LeO.refl _)
      | (with_reducible exact LeO.none _)
      | (with_reducible refine LeO.ite ?_ ?_)
      | (with_reducible refine LeO.bind ?_ (fun _ => ?_))
      | exact ih0 _ _ _ _ _ _ _ _ _ _ _ _ _ _ _
      | exact ih1 _ _ _ _ _ _ _ _ _ _ _ _ _ _ _
      | exact LeO.none _
      | refine LeO.ite ?_ ?_
      | refine LeO.bind ?_ (fun _ => ?_)
set_option maxHeartbeats 8000000 in
set_option maxRecDepth 100000 in
theorem waveletref23_SameHeader.calls (k : Nat) (a0_0 : Int) (a0_1 : Int) (a0_2 : Int) (a0_3 : Int) (a0_4 : Int) (a0_5 : Int) (A0_6 : Option Addr) (c0_6 : Nat) (l0_6 : List (S97)) (a1_0 : Int) (a1_1 : Int) (a1_2 : Int) (a1_3 : Int) (a1_4 : Int) (a1_5 : Int) (A1_6 : Option Addr) (c1_6 : Nat) (l1_6 : List (S97)) (r : Bool) (w : World) (hr0_6 : Kd.C k97 w A0_6 l0_6.length l0_6) (hc0_6 : l0_6.length ≤ c0_6) (hr1_6 : Kd.C k97 w A1_6 l1_6.length l1_6) (hc1_6 : l1_6.length ≤ c1_6) (h : waveletref23_SameHeader.f k a0_0 a0_1 a0_2 a0_3 a0_4 a0_5 l0_6 a1_0 a1_1 a1_2 a1_3 a1_4 a1_5 l1_6 = some r) :
    Calls Try.prog 41 #[.agg #[.int .i64 a0_0, .int .i64 a0_1, .int .i64 a0_2, .int .i64 a0_3, .int .i64 a0_4, .int .i64 a0_5, .slice A0_6 l0_6.length c0_6], .agg #[.int .i64 a1_0, .int .i64 a1_1, .int .i64 a1_2, .int .i64 a1_3, .int .i64 a1_4, .int .i64 a1_5, .slice A1_6 l1_6.length c1_6]] w fun e w' => e = .returned (.bool r) ∧ Below w.heap.size w w' := by
  have hu67 := Try.underlying67
  have hu64 := Try.underlying64
  have hu97 := Try.underlying97
  have HR0_6 := Aside0.mk hr0_6
  have HC0_6 := Aside0.mk hc0_6
  clear hr0_6 hc0_6
  have HR1_6 := Aside0.mk hr1_6
  have HC1_6 := Aside0.mk hc1_6
  clear hr1_6 hc1_6
  have HB := Aside0.mk (Below.refl w.heap.size w)
  have H : (if (!(a0_0 == a1_0) || (!(a0_1 == a1_1) || (!(a0_2 == a1_2) || (!(a0_3 == a1_3))))) = true then (waveletref23_SameHeader.j0 k true a0_0 a0_1 a0_2 a0_3 a0_4 a0_5 l0_6 a1_0 a1_1 a1_2 a1_3 a1_4 a1_5 l1_6) else (if a0_4 = a1_4 then (if a0_5 = a1_5 then (waveletref23_SameHeader.j0 k ((l0_6.length : Int) != (l1_6.length : Int)) a0_0 a0_1 a0_2 a0_3 a0_4 a0_5 l0_6 a1_0 a1_1 a1_2 a1_3 a1_4 a1_5 l1_6) else (waveletref23_SameHeader.j0 k true a0_0 a0_1 a0_2 a0_3 a0_4 a0_5 l0_6 a1_0 a1_1 a1_2 a1_3 a1_4 a1_5 l1_6)) else (waveletref23_SameHeader.j0 k true a0_0 a0_1 a0_2 a0_3 a0_4 a0_5 l0_6 a1_0 a1_1 a1_2 a1_3 a1_4 a1_5 l1_6))) = some r := h
  clear h
  have HC3 := Aside0.mk H
  clear H
  go_enter Try.func41, Try.ntmps41
  go_upto_region 1 with (first | ((with_reducible refine gate_dst (N := 2) rfl ?_); (try (refine gate_guard (by rfl) ?_; dsimp only)); refine box_event ?hg (N := 2) ?hd (cs := #[.int .i64 a0_0, .int .i64 a0_1, .int .i64 a0_2, .int .i64 a0_3, .int .i64 a0_4, .int .i64 a0_5, .slice A0_6 l0_6.length c0_6]) (t := 67) ?hr ?_; (case hd => rfl); (case hg => rfl); (case hr => first | (go_simp; done) | (go_simp; rfl)); intro gb940 hg w4 hbox hb; have BK940 := Aside0.mk (hbox); have GW940 := Aside0.mk ((by rw [hg]; exact (below_size (upB HB.out)) : w.heap.size ≤ gb940)); have GE940 := Aside0.mk ((by rw [hg]; exact (below_size (upB HB.out)) : w.heap.size ≤ gb940)); replace HB := Aside0.mk (below_step (upB HB.out) hb); clear hb hbox hg) | ((with_reducible refine gate_dst (N := 3) rfl ?_); (try (refine gate_guard (by rfl) ?_; dsimp only)); refine box_event ?hg (N := 3) ?hd (cs := #[.int .i64 a1_0, .int .i64 a1_1, .int .i64 a1_2, .int .i64 a1_3, .int .i64 a1_4, .int .i64 a1_5, .slice A1_6 l1_6.length c1_6]) (t := 67) ?hr ?_; (case hd => rfl); (case hg => rfl); (case hr => first | (go_simp; done) | (go_simp; rfl)); intro gb941 hg w5 hbox hb; have BK941 := Aside0.mk (hbox); have GW941 := Aside0.mk ((by rw [hg]; exact (below_size (upB HB.out)) : w.heap.size ≤ gb941)); have GE941 := Aside0.mk ((by rw [hg]; exact (below_size (upB HB.out)) : w.heap.size ≤ gb941)); replace HB := Aside0.mk (below_step (upB HB.out) hb); have NB940_941 := Aside0.mk ((by rw [hg]; exact Nat.ne_of_lt (blk_lt (upK BK940.out)) : gb940 ≠ gb941)); have NB941_940 := Aside0.mk ((by rw [hg]; exact Nat.ne_of_gt (blk_lt (upK BK940.out)) : gb941 ≠ gb940)); replace BK940 := Aside0.mk (blk_below (g := gb940) (o := .cells #[.int .i64 a0_0, .int .i64 a0_1, .int .i64 a0_2, .int .i64 a0_3, .int .i64 a0_4, .int .i64 a0_5, .slice A0_6 l0_6.length c0_6] 67 (0, 0)) (upK BK940.out) hb); clear hb hbox hg))
  repeat (go_quiet (first | ((with_reducible refine gate_dst (N := 2) rfl ?_); (try (refine gate_guard (by rfl) ?_; dsimp only)); refine box_event ?hg (N := 2) ?hd (cs := #[.int .i64 a0_0, .int .i64 a0_1, .int .i64 a0_2, .int .i64 a0_3, .int .i64 a0_4, .int .i64 a0_5, .slice A0_6 l0_6.length c0_6]) (t := 67) ?hr ?_; (case hd => rfl); (case hg => rfl); (case hr => first | (go_simp; done) | (go_simp; rfl)); intro gb940 hg w4 hbox hb; have BK940 := Aside0.mk (hbox); have GW940 := Aside0.mk ((by rw [hg]; exact (below_size (upB HB.out)) : w.heap.size ≤ gb940)); have GE940 := Aside0.mk ((by rw [hg]; exact (below_size (upB HB.out)) : w.heap.size ≤ gb940)); replace HB := Aside0.mk (below_step (upB HB.out) hb); clear hb hbox hg) | ((with_reducible refine gate_dst (N := 3) rfl ?_); (try (refine gate_guard (by rfl) ?_; dsimp only)); refine box_event ?hg (N := 3) ?hd (cs := #[.int .i64 a1_0, .int .i64 a1_1, .int .i64 a1_2, .int .i64 a1_3, .int .i64 a1_4, .int .i64 a1_5, .slice A1_6 l1_6.length c1_6]) (t := 67) ?hr ?_; (case hd => rfl); (case hg => rfl); (case hr => first | (go_simp; done) | (go_simp; rfl)); intro gb941 hg w5 hbox hb; have BK941 := Aside0.mk (hbox); have GW941 := Aside0.mk ((by rw [hg]; exact (below_size (upB HB.out)) : w.heap.size ≤ gb941)); have GE941 := Aside0.mk ((by rw [hg]; exact (below_size (upB HB.out)) : w.heap.size ≤ gb941)); replace HB := Aside0.mk (below_step (upB HB.out) hb); have NB940_941 := Aside0.mk ((by rw [hg]; exact Nat.ne_of_lt (blk_lt (upK BK940.out)) : gb940 ≠ gb941)); have NB941_940 := Aside0.mk ((by rw [hg]; exact Nat.ne_of_gt (blk_lt (upK BK940.out)) : gb941 ≠ gb940)); replace BK940 := Aside0.mk (blk_below (g := gb940) (o := .cells #[.int .i64 a0_0, .int .i64 a0_1, .int .i64 a0_2, .int .i64 a0_3, .int .i64 a0_4, .int .i64 a0_5, .slice A0_6 l0_6.length c0_6] 67 (0, 0)) (upK BK940.out) hb); clear hb hbox hg)); go_upto_region 1 with (first | ((with_reducible refine gate_dst (N := 2) rfl ?_); (try (refine gate_guard (by rfl) ?_; dsimp only)); refine box_event ?hg (N := 2) ?hd (cs := #[.int .i64 a0_0, .int .i64 a0_1, .int .i64 a0_2, .int .i64 a0_3, .int .i64 a0_4, .int .i64 a0_5, .slice A0_6 l0_6.length c0_6]) (t := 67) ?hr ?_; (case hd => rfl); (case hg => rfl); (case hr => first | (go_simp; done) | (go_simp; rfl)); intro gb940 hg w4 hbox hb; have BK940 := Aside0.mk (hbox); have GW940 := Aside0.mk ((by rw [hg]; exact (below_size (upB HB.out)) : w.heap.size ≤ gb940)); have GE940 := Aside0.mk ((by rw [hg]; exact (below_size (upB HB.out)) : w.heap.size ≤ gb940)); replace HB := Aside0.mk (below_step (upB HB.out) hb); clear hb hbox hg) | ((with_reducible refine gate_dst (N := 3) rfl ?_); (try (refine gate_guard (by rfl) ?_; dsimp only)); refine box_event ?hg (N := 3) ?hd (cs := #[.int .i64 a1_0, .int .i64 a1_1, .int .i64 a1_2, .int .i64 a1_3, .int .i64 a1_4, .int .i64 a1_5, .slice A1_6 l1_6.length c1_6]) (t := 67) ?hr ?_; (case hd => rfl); (case hg => rfl); (case hr => first | (go_simp; done) | (go_simp; rfl)); intro gb941 hg w5 hbox hb; have BK941 := Aside0.mk (hbox); have GW941 := Aside0.mk ((by rw [hg]; exact (below_size (upB HB.out)) : w.heap.size ≤ gb941)); have GE941 := Aside0.mk ((by rw [hg]; exact (below_size (upB HB.out)) : w.heap.size ≤ gb941)); replace HB := Aside0.mk (below_step (upB HB.out) hb); have NB940_941 := Aside0.mk ((by rw [hg]; exact Nat.ne_of_lt (blk_lt (upK BK940.out)) : gb940 ≠ gb941)); have NB941_940 := Aside0.mk ((by rw [hg]; exact Nat.ne_of_gt (blk_lt (upK BK940.out)) : gb941 ≠ gb940)); replace BK940 := Aside0.mk (blk_below (g := gb940) (o := .cells #[.int .i64 a0_0, .int .i64 a0_1, .int .i64 a0_2, .int .i64 a0_3, .int .i64 a0_4, .int .i64 a0_5, .slice A0_6 l0_6.length c0_6] 67 (0, 0)) (upK BK940.out) hb); clear hb hbox hg)))
  (try simp only [Act.put, List.setIfInBounds_toArray, List.set_cons_zero, List.set_cons_succ])
  go_cut [33] (fun v33 wc => ∃ (kq : Nat) (x33_2 : Bool), v33 = .bool x33_2 ∧ Aside0 (waveletref23_SameHeader.j0 kq x33_2 a0_0 a0_1 a0_2 a0_3 a0_4 a0_5 l0_6 a1_0 a1_1 a1_2 a1_3 a1_4 a1_5 l1_6 = some r) ∧ Aside0 (kq ≤ k) ∧ Aside0 (wc.heap[gb940]? = some (.cells #[.int .i64 a0_0, .int .i64 a0_1, .int .i64 a0_2, .int .i64 a0_3, .int .i64 a0_4, .int .i64 a0_5, (.slice A0_6 l0_6.length c0_6)] 67 (0, 0))) ∧ Aside0 (wc.heap[gb941]? = some (.cells #[.int .i64 a1_0, .int .i64 a1_1, .int .i64 a1_2, .int .i64 a1_3, .int .i64 a1_4, .int .i64 a1_5, (.slice A1_6 l1_6.length c1_6)] 67 (0, 0))) ∧ Aside0 (Below w.heap.size w wc))
  case first =>
    have H := HC3.out
    clear HC3
    by_cases c6 : (!(a0_0 == a1_0) || (!(a0_1 == a1_1) || (!(a0_2 == a1_2) || (!(a0_3 == a1_3))))) = true
    · rw [if_pos c6] at H
      have c6b0 : (!(a0_0 == a1_0) || (!(a0_1 == a1_1) || (!(a0_2 == a1_2) || (!(a0_3 == a1_3))))) = true := c6
      clear c6
      (first | rw [c6b0] | (simp only [i64_w, i32_w]; rw [c6b0]) | skip)
      have H' := Aside0.mk H
      clear H
      have hnb7 := NB940_941.out
      have hnc7 := NB941_940.out
      have hcz8_0 : w5.cell? ⟨gb940, 0, none⟩ = some (.int .i64 a0_0) := bc BK940 0
      have hcz8_1 : w5.cell? ⟨gb940, 1, none⟩ = some (.int .i64 a0_1) := bc BK940 1
      have hcz8_2 : w5.cell? ⟨gb940, 2, none⟩ = some (.int .i64 a0_2) := bc BK940 2
      have hcz8_3 : w5.cell? ⟨gb940, 3, none⟩ = some (.int .i64 a0_3) := bc BK940 3
      have hcz8_4 : w5.cell? ⟨gb940, 4, none⟩ = some (.int .i64 a0_4) := bc BK940 4
      have hcz8_5 : w5.cell? ⟨gb940, 5, none⟩ = some (.int .i64 a0_5) := bc BK940 5
      have hcz8_6 : w5.cell? ⟨gb940, 6, none⟩ = some (.slice A0_6 l0_6.length c0_6) := bc BK940 6
      have hfz8_0 := blk_frozen BK940.out 0
      have hfz8_1 := blk_frozen BK940.out 1
      have hfz8_2 := blk_frozen BK940.out 2
      have hfz8_3 := blk_frozen BK940.out 3
      have hfz8_4 := blk_frozen BK940.out 4
      have hfz8_5 := blk_frozen BK940.out 5
      have hfz8_6 := blk_frozen BK940.out 6
      have hcz9_0 : w5.cell? ⟨gb941, 0, none⟩ = some (.int .i64 a1_0) := bc BK941 0
      have hcz9_1 : w5.cell? ⟨gb941, 1, none⟩ = some (.int .i64 a1_1) := bc BK941 1
      have hcz9_2 : w5.cell? ⟨gb941, 2, none⟩ = some (.int .i64 a1_2) := bc BK941 2
      have hcz9_3 : w5.cell? ⟨gb941, 3, none⟩ = some (.int .i64 a1_3) := bc BK941 3
      have hcz9_4 : w5.cell? ⟨gb941, 4, none⟩ = some (.int .i64 a1_4) := bc BK941 4
      have hcz9_5 : w5.cell? ⟨gb941, 5, none⟩ = some (.int .i64 a1_5) := bc BK941 5
      have hcz9_6 : w5.cell? ⟨gb941, 6, none⟩ = some (.slice A1_6 l1_6.length c1_6) := bc BK941 6
      have hfz9_0 := blk_frozen BK941.out 0
      have hfz9_1 := blk_frozen BK941.out 1
      have hfz9_2 := blk_frozen BK941.out 2
      have hfz9_3 := blk_frozen BK941.out 3
      have hfz9_4 := blk_frozen BK941.out 4
      have hfz9_5 := blk_frozen BK941.out 5
      have hfz9_6 := blk_frozen BK941.out 6
      go_wp2
      repeat (go_quiet (fail); try go_wp2)
      go_meet
      case rel => exact ⟨_, (true), (by first | rfl | (simp; done) | (simp [*]; done)), H', ⟨by first | omega | exact Nat.le_refl _⟩, ⟨by (with_reducible repeat (first | refine blk_drewN ?_ _ | refine blk_drew ?_ | refine blk_alloc ?_ _)); exact BK940.out⟩, ⟨by (with_reducible repeat (first | refine blk_drewN ?_ _ | refine blk_drew ?_ | refine blk_alloc ?_ _)); exact BK941.out⟩, ⟨by repeat (first | (with_reducible first | exact HB.out | apply below_alloc | apply pw_below_drewN | apply below_drew1 | refine below_set ?_ GE940.out | refine below_set ?_ GE941.out) | exact HB.out)⟩⟩
    · rw [if_neg c6] at H
      have c6b0 : (!(a0_0 == a1_0) || (!(a0_1 == a1_1) || (!(a0_2 == a1_2) || (!(a0_3 == a1_3))))) = false := by simpa using c6
      clear c6
      (first | rw [c6b0] | (simp only [i64_w, i32_w]; rw [c6b0]) | skip)
      by_cases c10 : a0_4 = a1_4
      · rw [if_pos c10] at H
        have c10b0 : (a0_4 == a1_4) = true := beq_iff_eq.mpr c10
        have c10b1 : (a0_4 != a1_4) = false := bne_eq_false_iff_eq.mpr c10
        clear c10
        by_cases c11 : a0_5 = a1_5
        · rw [if_pos c11] at H
          have c11b0 : (a0_5 == a1_5) = true := beq_iff_eq.mpr c11
          have c11b1 : (a0_5 != a1_5) = false := bne_eq_false_iff_eq.mpr c11
          clear c11
          have H' := Aside0.mk H
          clear H
          have hnb12 := NB940_941.out
          have hnc12 := NB941_940.out
          have hcz13_0 : w5.cell? ⟨gb940, 0, none⟩ = some (.int .i64 a0_0) := bc BK940 0
          have hcz13_1 : w5.cell? ⟨gb940, 1, none⟩ = some (.int .i64 a0_1) := bc BK940 1
          have hcz13_2 : w5.cell? ⟨gb940, 2, none⟩ = some (.int .i64 a0_2) := bc BK940 2
          have hcz13_3 : w5.cell? ⟨gb940, 3, none⟩ = some (.int .i64 a0_3) := bc BK940 3
          have hcz13_4 : w5.cell? ⟨gb940, 4, none⟩ = some (.int .i64 a0_4) := bc BK940 4
          have hcz13_5 : w5.cell? ⟨gb940, 5, none⟩ = some (.int .i64 a0_5) := bc BK940 5
          have hcz13_6 : w5.cell? ⟨gb940, 6, none⟩ = some (.slice A0_6 l0_6.length c0_6) := bc BK940 6
          have hfz13_0 := blk_frozen BK940.out 0
          have hfz13_1 := blk_frozen BK940.out 1
          have hfz13_2 := blk_frozen BK940.out 2
          have hfz13_3 := blk_frozen BK940.out 3
          have hfz13_4 := blk_frozen BK940.out 4
          have hfz13_5 := blk_frozen BK940.out 5
          have hfz13_6 := blk_frozen BK940.out 6
          have hcz14_0 : w5.cell? ⟨gb941, 0, none⟩ = some (.int .i64 a1_0) := bc BK941 0
          have hcz14_1 : w5.cell? ⟨gb941, 1, none⟩ = some (.int .i64 a1_1) := bc BK941 1
          have hcz14_2 : w5.cell? ⟨gb941, 2, none⟩ = some (.int .i64 a1_2) := bc BK941 2
          have hcz14_3 : w5.cell? ⟨gb941, 3, none⟩ = some (.int .i64 a1_3) := bc BK941 3
          have hcz14_4 : w5.cell? ⟨gb941, 4, none⟩ = some (.int .i64 a1_4) := bc BK941 4
          have hcz14_5 : w5.cell? ⟨gb941, 5, none⟩ = some (.int .i64 a1_5) := bc BK941 5
          have hcz14_6 : w5.cell? ⟨gb941, 6, none⟩ = some (.slice A1_6 l1_6.length c1_6) := bc BK941 6
          have hfz14_0 := blk_frozen BK941.out 0
          have hfz14_1 := blk_frozen BK941.out 1
          have hfz14_2 := blk_frozen BK941.out 2
          have hfz14_3 := blk_frozen BK941.out 3
          have hfz14_4 := blk_frozen BK941.out 4
          have hfz14_5 := blk_frozen BK941.out 5
          have hfz14_6 := blk_frozen BK941.out 6
          go_wp2
          repeat (go_quiet (fail); try go_wp2)
          go_meet
          case rel => exact ⟨_, (((l0_6.length : Int) != (l1_6.length : Int))), (by first | rfl | (simp; done) | (simp [*]; done)), H', ⟨by first | omega | exact Nat.le_refl _⟩, ⟨by (with_reducible repeat (first | refine blk_drewN ?_ _ | refine blk_drew ?_ | refine blk_alloc ?_ _)); exact BK940.out⟩, ⟨by (with_reducible repeat (first | refine blk_drewN ?_ _ | refine blk_drew ?_ | refine blk_alloc ?_ _)); exact BK941.out⟩, ⟨by repeat (first | (with_reducible first | exact HB.out | apply below_alloc | apply pw_below_drewN | apply below_drew1 | refine below_set ?_ GE940.out | refine below_set ?_ GE941.out) | exact HB.out)⟩⟩
        · rw [if_neg c11] at H
          have c11b0 : (a0_5 == a1_5) = false := beq_eq_false_iff_ne.mpr c11
          have c11b1 : (a0_5 != a1_5) = true := bne_iff_ne.mpr c11
          have H' := Aside0.mk H
          clear H
          have hnb15 := NB940_941.out
          have hnc15 := NB941_940.out
          have hcz16_0 : w5.cell? ⟨gb940, 0, none⟩ = some (.int .i64 a0_0) := bc BK940 0
          have hcz16_1 : w5.cell? ⟨gb940, 1, none⟩ = some (.int .i64 a0_1) := bc BK940 1
          have hcz16_2 : w5.cell? ⟨gb940, 2, none⟩ = some (.int .i64 a0_2) := bc BK940 2
          have hcz16_3 : w5.cell? ⟨gb940, 3, none⟩ = some (.int .i64 a0_3) := bc BK940 3
          have hcz16_4 : w5.cell? ⟨gb940, 4, none⟩ = some (.int .i64 a0_4) := bc BK940 4
          have hcz16_5 : w5.cell? ⟨gb940, 5, none⟩ = some (.int .i64 a0_5) := bc BK940 5
          have hcz16_6 : w5.cell? ⟨gb940, 6, none⟩ = some (.slice A0_6 l0_6.length c0_6) := bc BK940 6
          have hfz16_0 := blk_frozen BK940.out 0
          have hfz16_1 := blk_frozen BK940.out 1
          have hfz16_2 := blk_frozen BK940.out 2
          have hfz16_3 := blk_frozen BK940.out 3
          have hfz16_4 := blk_frozen BK940.out 4
          have hfz16_5 := blk_frozen BK940.out 5
          have hfz16_6 := blk_frozen BK940.out 6
          have hcz17_0 : w5.cell? ⟨gb941, 0, none⟩ = some (.int .i64 a1_0) := bc BK941 0
          have hcz17_1 : w5.cell? ⟨gb941, 1, none⟩ = some (.int .i64 a1_1) := bc BK941 1
          have hcz17_2 : w5.cell? ⟨gb941, 2, none⟩ = some (.int .i64 a1_2) := bc BK941 2
          have hcz17_3 : w5.cell? ⟨gb941, 3, none⟩ = some (.int .i64 a1_3) := bc BK941 3
          have hcz17_4 : w5.cell? ⟨gb941, 4, none⟩ = some (.int .i64 a1_4) := bc BK941 4
          have hcz17_5 : w5.cell? ⟨gb941, 5, none⟩ = some (.int .i64 a1_5) := bc BK941 5
          have hcz17_6 : w5.cell? ⟨gb941, 6, none⟩ = some (.slice A1_6 l1_6.length c1_6) := bc BK941 6
          have hfz17_0 := blk_frozen BK941.out 0
          have hfz17_1 := blk_frozen BK941.out 1
          have hfz17_2 := blk_frozen BK941.out 2
          have hfz17_3 := blk_frozen BK941.out 3
          have hfz17_4 := blk_frozen BK941.out 4
          have hfz17_5 := blk_frozen BK941.out 5
          have hfz17_6 := blk_frozen BK941.out 6
          go_wp2
          repeat (go_quiet (fail); try go_wp2)
          go_meet
          case rel => exact ⟨_, (true), (by first | rfl | (simp; done) | (simp [*]; done)), H', ⟨by first | omega | exact Nat.le_refl _⟩, ⟨by (with_reducible repeat (first | refine blk_drewN ?_ _ | refine blk_drew ?_ | refine blk_alloc ?_ _)); exact BK940.out⟩, ⟨by (with_reducible repeat (first | refine blk_drewN ?_ _ | refine blk_drew ?_ | refine blk_alloc ?_ _)); exact BK941.out⟩, ⟨by repeat (first | (with_reducible first | exact HB.out | apply below_alloc | apply pw_below_drewN | apply below_drew1 | refine below_set ?_ GE940.out | refine below_set ?_ GE941.out) | exact HB.out)⟩⟩
      · rw [if_neg c10] at H
        have c10b0 : (a0_4 == a1_4) = false := beq_eq_false_iff_ne.mpr c10
        have c10b1 : (a0_4 != a1_4) = true := bne_iff_ne.mpr c10
        have H' := Aside0.mk H
        clear H
        have hnb18 := NB940_941.out
        have hnc18 := NB941_940.out
        have hcz19_0 : w5.cell? ⟨gb940, 0, none⟩ = some (.int .i64 a0_0) := bc BK940 0
        have hcz19_1 : w5.cell? ⟨gb940, 1, none⟩ = some (.int .i64 a0_1) := bc BK940 1
        have hcz19_2 : w5.cell? ⟨gb940, 2, none⟩ = some (.int .i64 a0_2) := bc BK940 2
        have hcz19_3 : w5.cell? ⟨gb940, 3, none⟩ = some (.int .i64 a0_3) := bc BK940 3
        have hcz19_4 : w5.cell? ⟨gb940, 4, none⟩ = some (.int .i64 a0_4) := bc BK940 4
        have hcz19_5 : w5.cell? ⟨gb940, 5, none⟩ = some (.int .i64 a0_5) := bc BK940 5
        have hcz19_6 : w5.cell? ⟨gb940, 6, none⟩ = some (.slice A0_6 l0_6.length c0_6) := bc BK940 6
        have hfz19_0 := blk_frozen BK940.out 0
        have hfz19_1 := blk_frozen BK940.out 1
        have hfz19_2 := blk_frozen BK940.out 2
        have hfz19_3 := blk_frozen BK940.out 3
        have hfz19_4 := blk_frozen BK940.out 4
        have hfz19_5 := blk_frozen BK940.out 5
        have hfz19_6 := blk_frozen BK940.out 6
        have hcz20_0 : w5.cell? ⟨gb941, 0, none⟩ = some (.int .i64 a1_0) := bc BK941 0
        have hcz20_1 : w5.cell? ⟨gb941, 1, none⟩ = some (.int .i64 a1_1) := bc BK941 1
        have hcz20_2 : w5.cell? ⟨gb941, 2, none⟩ = some (.int .i64 a1_2) := bc BK941 2
        have hcz20_3 : w5.cell? ⟨gb941, 3, none⟩ = some (.int .i64 a1_3) := bc BK941 3
        have hcz20_4 : w5.cell? ⟨gb941, 4, none⟩ = some (.int .i64 a1_4) := bc BK941 4
        have hcz20_5 : w5.cell? ⟨gb941, 5, none⟩ = some (.int .i64 a1_5) := bc BK941 5
        have hcz20_6 : w5.cell? ⟨gb941, 6, none⟩ = some (.slice A1_6 l1_6.length c1_6) := bc BK941 6
        have hfz20_0 := blk_frozen BK941.out 0
        have hfz20_1 := blk_frozen BK941.out 1
        have hfz20_2 := blk_frozen BK941.out 2
        have hfz20_3 := blk_frozen BK941.out 3
        have hfz20_4 := blk_frozen BK941.out 4
        have hfz20_5 := blk_frozen BK941.out 5
        have hfz20_6 := blk_frozen BK941.out 6
        go_wp2
        repeat (go_quiet (fail); try go_wp2)
        go_meet
        case rel => exact ⟨_, (true), (by first | rfl | (simp; done) | (simp [*]; done)), H', ⟨by first | omega | exact Nat.le_refl _⟩, ⟨by (with_reducible repeat (first | refine blk_drewN ?_ _ | refine blk_drew ?_ | refine blk_alloc ?_ _)); exact BK940.out⟩, ⟨by (with_reducible repeat (first | refine blk_drewN ?_ _ | refine blk_drew ?_ | refine blk_alloc ?_ _)); exact BK941.out⟩, ⟨by repeat (first | (with_reducible first | exact HB.out | apply below_alloc | apply pw_below_drewN | apply below_drew1 | refine below_set ?_ GE940.out | refine below_set ?_ GE941.out) | exact HB.out)⟩⟩
  case rest =>
    clear HC3
    try clear c1
    try clear p2
    try clear c4
    try clear c6
    try clear c6b0
    try clear c7
    try clear c10
    try clear c10b0
    try clear c10b1
    try clear c11
    try clear c11b0
    try clear c11b1
    try clear c12
    try clear c15
    try clear c18
    try clear hcz13_0
    try clear hcz13_1
    try clear hcz13_2
    try clear hcz13_3
    try clear hcz13_4
    try clear hcz13_5
    try clear hcz13_6
    try clear hcz14_0
    try clear hcz14_1
    try clear hcz14_2
    try clear hcz14_3
    try clear hcz14_4
    try clear hcz14_5
    try clear hcz14_6
    try clear hcz16_0
    try clear hcz16_1
    try clear hcz16_2
    try clear hcz16_3
    try clear hcz16_4
    try clear hcz16_5
    try clear hcz16_6
    try clear hcz17_0
    try clear hcz17_1
    try clear hcz17_2
    try clear hcz17_3
    try clear hcz17_4
    try clear hcz17_5
    try clear hcz17_6
    try clear hcz19_0
    try clear hcz19_1
    try clear hcz19_2
    try clear hcz19_3
    try clear hcz19_4
    try clear hcz19_5
    try clear hcz19_6
    try clear hcz20_0
    try clear hcz20_1
    try clear hcz20_2
    try clear hcz20_3
    try clear hcz20_4
    try clear hcz20_5
    try clear hcz20_6
    try clear hcz8_0
    try clear hcz8_1
    try clear hcz8_2
    try clear hcz8_3
    try clear hcz8_4
    try clear hcz8_5
    try clear hcz8_6
    try clear hcz9_0
    try clear hcz9_1
    try clear hcz9_2
    try clear hcz9_3
    try clear hcz9_4
    try clear hcz9_5
    try clear hcz9_6
    try clear hfz13_0
    try clear hfz13_1
    try clear hfz13_2
    try clear hfz13_3
    try clear hfz13_4
    try clear hfz13_5
    try clear hfz13_6
    try clear hfz14_0
    try clear hfz14_1
    try clear hfz14_2
    try clear hfz14_3
    try clear hfz14_4
    try clear hfz14_5
    try clear hfz14_6
    try clear hfz16_0
    try clear hfz16_1
    try clear hfz16_2
    try clear hfz16_3
    try clear hfz16_4
    try clear hfz16_5
    try clear hfz16_6
    try clear hfz17_0
    try clear hfz17_1
    try clear hfz17_2
    try clear hfz17_3
    try clear hfz17_4
    try clear hfz17_5
    try clear hfz17_6
    try clear hfz19_0
    try clear hfz19_1
    try clear hfz19_2
    try clear hfz19_3
    try clear hfz19_4
    try clear hfz19_5
    try clear hfz19_6
    try clear hfz20_0
    try clear hfz20_1
    try clear hfz20_2
    try clear hfz20_3
    try clear hfz20_4
    try clear hfz20_5
    try clear hfz20_6
    try clear hfz8_0
    try clear hfz8_1
    try clear hfz8_2
    try clear hfz8_3
    try clear hfz8_4
    try clear hfz8_5
    try clear hfz8_6
    try clear hfz9_0
    try clear hfz9_1
    try clear hfz9_2
    try clear hfz9_3
    try clear hfz9_4
    try clear hfz9_5
    try clear hfz9_6
    obtain ⟨kq, x33_2, rfl, HA, HJ2, BK940, BK941, HB⟩ := hcut
    cases kq with
    | zero => exact absurd HA.out (by simp [waveletref23_SameHeader.j0])
    | succ kj2 =>
      have H := HA.out
      clear HA
      simp only [waveletref23_SameHeader.j0] at H
      by_cases c21 : x33_2 = true
      · subst c21
        have H1 : (some false) = some r := by rw [if_pos rfl] at H; exact H
        clear H
        have H := H1
        clear H1
        obtain rfl := Option.some.inj H
        go_wp2
        repeat (go_quiet (fail); try go_wp2)
        go_ret
        exact ⟨by first | rfl | (simp [errW_none, errW_some] <;> rfl) | (simp [*, errW_none, errW_some] <;> rfl), by repeat (first | (with_reducible first | exact HB.out | apply below_alloc | apply pw_below_drewN | apply below_drew1 | refine below_set ?_ GE940.out | refine below_set ?_ GE941.out) | exact HB.out)⟩
      · replace c21 := Bool.eq_false_iff.mpr c21
        subst c21
        have H1 : (waveletref23_SameHeader.l0 kj2 0 a0_0 a0_1 a0_2 a0_3 a0_4 a0_5 l0_6 a1_0 a1_1 a1_2 a1_3 a1_4 a1_5 l1_6) = some r := by rw [if_neg (show ¬ (false = true) by decide)] at H; exact H
        clear H
        have H := H1
        clear H1
        have H' := Aside0.mk H
        clear H
        go_wp2
        repeat (go_quiet (fail); try go_wp2)
        go_loopg [5] kj2 (fun kq v5 w' => ∃ (x5_2 : Int), v5 = .int .i64 x5_2 ∧ Aside0 (waveletref23_SameHeader.l0 kq x5_2 a0_0 a0_1 a0_2 a0_3 a0_4 a0_5 l0_6 a1_0 a1_1 a1_2 a1_3 a1_4 a1_5 l1_6 = some r) ∧ Aside0 (kq ≤ kj2) ∧ Aside0 (w'.heap[gb940]? = some (.cells #[.int .i64 a0_0, .int .i64 a0_1, .int .i64 a0_2, .int .i64 a0_3, .int .i64 a0_4, .int .i64 a0_5, (.slice A0_6 l0_6.length c0_6)] 67 (0, 0))) ∧ Aside0 (w'.heap[gb941]? = some (.cells #[.int .i64 a1_0, .int .i64 a1_1, .int .i64 a1_2, .int .i64 a1_3, .int .i64 a1_4, .int .i64 a1_5, (.slice A1_6 l1_6.length c1_6)] 67 (0, 0))) ∧ Aside0 (Below w.heap.size w w'))
        case atStart => exact ⟨(0), (by first | rfl | (simp; done) | (simp [*]; done)), H', ⟨Nat.le_refl _⟩, ⟨by (with_reducible repeat (first | refine blk_drewN ?_ _ | refine blk_drew ?_ | refine blk_alloc ?_ _)); exact BK940.out⟩, ⟨by (with_reducible repeat (first | refine blk_drewN ?_ _ | refine blk_drew ?_ | refine blk_alloc ?_ _)); exact BK941.out⟩, ⟨by repeat (first | (with_reducible first | exact HB.out | apply below_alloc | apply pw_below_drewN | apply below_drew1 | refine below_set ?_ GE940.out | refine below_set ?_ GE941.out) | exact HB.out)⟩⟩
        case round =>
          clear H'
          try clear c1
          try clear c2
          try clear p2
          try clear c4
          try clear c6
          try clear c6b0
          try clear c7
          try clear c10
          try clear c10b0
          try clear c10b1
          try clear c11
          try clear c11b0
          try clear c11b1
          try clear c12
          try clear c15
          try clear c18
          try clear c21
          try clear hcz13_0
          try clear hcz13_1
          try clear hcz13_2
          try clear hcz13_3
          try clear hcz13_4
          try clear hcz13_5
          try clear hcz13_6
          try clear hcz14_0
          try clear hcz14_1
          try clear hcz14_2
          try clear hcz14_3
          try clear hcz14_4
          try clear hcz14_5
          try clear hcz14_6
          try clear hcz16_0
          try clear hcz16_1
          try clear hcz16_2
          try clear hcz16_3
          try clear hcz16_4
          try clear hcz16_5
          try clear hcz16_6
          try clear hcz17_0
          try clear hcz17_1
          try clear hcz17_2
          try clear hcz17_3
          try clear hcz17_4
          try clear hcz17_5
          try clear hcz17_6
          try clear hcz19_0
          try clear hcz19_1
          try clear hcz19_2
          try clear hcz19_3
          try clear hcz19_4
          try clear hcz19_5
          try clear hcz19_6
          try clear hcz20_0
          try clear hcz20_1
          try clear hcz20_2
          try clear hcz20_3
          try clear hcz20_4
          try clear hcz20_5
          try clear hcz20_6
          try clear hcz8_0
          try clear hcz8_1
          try clear hcz8_2
          try clear hcz8_3
          try clear hcz8_4
          try clear hcz8_5
          try clear hcz8_6
          try clear hcz9_0
          try clear hcz9_1
          try clear hcz9_2
          try clear hcz9_3
          try clear hcz9_4
          try clear hcz9_5
          try clear hcz9_6
          try clear hfz13_0
          try clear hfz13_1
          try clear hfz13_2
          try clear hfz13_3
          try clear hfz13_4
          try clear hfz13_5
          try clear hfz13_6
          try clear hfz14_0
          try clear hfz14_1
          try clear hfz14_2
          try clear hfz14_3
          try clear hfz14_4
          try clear hfz14_5
          try clear hfz14_6
          try clear hfz16_0
          try clear hfz16_1
          try clear hfz16_2
          try clear hfz16_3
          try clear hfz16_4
          try clear hfz16_5
          try clear hfz16_6
          try clear hfz17_0
          try clear hfz17_1
          try clear hfz17_2
          try clear hfz17_3
          try clear hfz17_4
          try clear hfz17_5
          try clear hfz17_6
          try clear hfz19_0
          try clear hfz19_1
          try clear hfz19_2
          try clear hfz19_3
          try clear hfz19_4
          try clear hfz19_5
          try clear hfz19_6
          try clear hfz20_0
          try clear hfz20_1
          try clear hfz20_2
          try clear hfz20_3
          try clear hfz20_4
          try clear hfz20_5
          try clear hfz20_6
          try clear hfz8_0
          try clear hfz8_1
          try clear hfz8_2
          try clear hfz8_3
          try clear hfz8_4
          try clear hfz8_5
          try clear hfz8_6
          try clear hfz9_0
          try clear hfz9_1
          try clear hfz9_2
          try clear hfz9_3
          try clear hfz9_4
          try clear hfz9_5
          try clear hfz9_6
          try clear p2
          obtain ⟨x5_2, rfl, HA, HK2, BK940, BK941, HB⟩ := hrel
          cases gk with
          | zero => exact absurd HA.out (by simp [waveletref23_SameHeader.l0])
          | succ k2 =>
            have H := HA.out
            clear HA
            simp only [waveletref23_SameHeader.l0] at H
            by_cases c22 : x5_2 < (l0_6.length : Int)
            · rw [if_pos c22] at H
              have c22b0 : decide (x5_2 < (l0_6.length : Int)) = true := decide_eq_true c22
              clear c22
              by_cases c23 : 0 ≤ x5_2
              · rw [if_pos c23] at H
                have c23b0 : decide (0 ≤ x5_2) = true := decide_eq_true c23
                clear c23
                by_cases c24 : x5_2 < (l1_6.length : Int)
                · rw [if_pos c24] at H
                  have c24b0 : decide (x5_2 < (l1_6.length : Int)) = true := decide_eq_true c24
                  clear c24
                  by_cases c25 : (!(((rd_T97 l0_6 x5_2).f0) == ((rd_T97 l1_6 x5_2).f0)) || (!(((rd_T97 l0_6 x5_2).f1) == ((rd_T97 l1_6 x5_2).f1)) || (!(((rd_T97 l0_6 x5_2).f2) == ((rd_T97 l1_6 x5_2).f2)) || (!(((rd_T97 l0_6 x5_2).f3) == ((rd_T97 l1_6 x5_2).f3)))))) = true
                  · rw [if_pos c25] at H
                    have c25b0 : (!(((rd_T97 l0_6 x5_2).f0) == ((rd_T97 l1_6 x5_2).f0)) || (!(((rd_T97 l0_6 x5_2).f1) == ((rd_T97 l1_6 x5_2).f1)) || (!(((rd_T97 l0_6 x5_2).f2) == ((rd_T97 l1_6 x5_2).f2)) || (!(((rd_T97 l0_6 x5_2).f3) == ((rd_T97 l1_6 x5_2).f3)))))) = true := c25
                    clear c25
                    obtain rfl := Option.some.inj H
                    have hnb26 := NB940_941.out
                    have hnc26 := NB941_940.out
                    have hcz27_0 : wr.cell? ⟨gb940, 0, none⟩ = some (.int .i64 a0_0) := bc BK940 0
                    have hcz27_1 : wr.cell? ⟨gb940, 1, none⟩ = some (.int .i64 a0_1) := bc BK940 1
                    have hcz27_2 : wr.cell? ⟨gb940, 2, none⟩ = some (.int .i64 a0_2) := bc BK940 2
                    have hcz27_3 : wr.cell? ⟨gb940, 3, none⟩ = some (.int .i64 a0_3) := bc BK940 3
                    have hcz27_4 : wr.cell? ⟨gb940, 4, none⟩ = some (.int .i64 a0_4) := bc BK940 4
                    have hcz27_5 : wr.cell? ⟨gb940, 5, none⟩ = some (.int .i64 a0_5) := bc BK940 5
                    have hcz27_6 : wr.cell? ⟨gb940, 6, none⟩ = some (.slice A0_6 l0_6.length c0_6) := bc BK940 6
                    have hfz27_0 := blk_frozen BK940.out 0
                    have hfz27_1 := blk_frozen BK940.out 1
                    have hfz27_2 := blk_frozen BK940.out 2
                    have hfz27_3 := blk_frozen BK940.out 3
                    have hfz27_4 := blk_frozen BK940.out 4
                    have hfz27_5 := blk_frozen BK940.out 5
                    have hfz27_6 := blk_frozen BK940.out 6
                    have p942 : 0 ≤ (x5_2 : Int) := of_decide_eq_true (by first | (with_reducible assumption) | assumption)
                    have q942 : x5_2 < (l0_6.length : Int) := of_decide_eq_true (by first | (with_reducible assumption) | assumption)
                    obtain ⟨ad942, e942, hx942_0, hx942_1, hx942_2, hx942_3⟩ := at_T97 HR0_6.out x5_2 p942 q942
                    cases e942
                    replace hx942_0 := hc HB hx942_0
                    replace hx942_1 := hc HB hx942_1
                    replace hx942_2 := hc HB hx942_2
                    replace hx942_3 := hc HB hx942_3
                    replace p942 := eq_true p942
                    replace q942 := eq_true q942
                    have hcz28_0 : wr.cell? ⟨gb941, 0, none⟩ = some (.int .i64 a1_0) := bc BK941 0
                    have hcz28_1 : wr.cell? ⟨gb941, 1, none⟩ = some (.int .i64 a1_1) := bc BK941 1
                    have hcz28_2 : wr.cell? ⟨gb941, 2, none⟩ = some (.int .i64 a1_2) := bc BK941 2
                    have hcz28_3 : wr.cell? ⟨gb941, 3, none⟩ = some (.int .i64 a1_3) := bc BK941 3
                    have hcz28_4 : wr.cell? ⟨gb941, 4, none⟩ = some (.int .i64 a1_4) := bc BK941 4
                    have hcz28_5 : wr.cell? ⟨gb941, 5, none⟩ = some (.int .i64 a1_5) := bc BK941 5
                    have hcz28_6 : wr.cell? ⟨gb941, 6, none⟩ = some (.slice A1_6 l1_6.length c1_6) := bc BK941 6
                    have hfz28_0 := blk_frozen BK941.out 0
                    have hfz28_1 := blk_frozen BK941.out 1
                    have hfz28_2 := blk_frozen BK941.out 2
                    have hfz28_3 := blk_frozen BK941.out 3
                    have hfz28_4 := blk_frozen BK941.out 4
                    have hfz28_5 := blk_frozen BK941.out 5
                    have hfz28_6 := blk_frozen BK941.out 6
                    have p943 : 0 ≤ (x5_2 : Int) := of_decide_eq_true (by first | (with_reducible assumption) | assumption)
                    have q943 : x5_2 < (l1_6.length : Int) := of_decide_eq_true (by first | (with_reducible assumption) | assumption)
                    obtain ⟨ad943, e943, hx943_0, hx943_1, hx943_2, hx943_3⟩ := at_T97 HR1_6.out x5_2 p943 q943
                    cases e943
                    replace hx943_0 := hc HB hx943_0
                    replace hx943_1 := hc HB hx943_1
                    replace hx943_2 := hc HB hx943_2
                    replace hx943_3 := hc HB hx943_3
                    replace p943 := eq_true p943
                    replace q943 := eq_true q943
                    go_wp2
                    repeat (go_quiet (fail); try go_wp2)
                    go_ret
                    exact ⟨by first | rfl | (simp [errW_none, errW_some] <;> rfl) | (simp [*, errW_none, errW_some] <;> rfl), by repeat (first | (with_reducible first | exact HB.out | apply below_alloc | apply pw_below_drewN | apply below_drew1 | refine below_set ?_ GE940.out | refine below_set ?_ GE941.out) | exact HB.out)⟩
                  · rw [if_neg c25] at H
                    have c25b0 : (!(((rd_T97 l0_6 x5_2).f0) == ((rd_T97 l1_6 x5_2).f0)) || (!(((rd_T97 l0_6 x5_2).f1) == ((rd_T97 l1_6 x5_2).f1)) || (!(((rd_T97 l0_6 x5_2).f2) == ((rd_T97 l1_6 x5_2).f2)) || (!(((rd_T97 l0_6 x5_2).f3) == ((rd_T97 l1_6 x5_2).f3)))))) = false := by simpa using c25
                    clear c25
                    have H' := Aside0.mk H
                    clear H
                    have hnb29 := NB940_941.out
                    have hnc29 := NB941_940.out
                    have hcz30_0 : wr.cell? ⟨gb940, 0, none⟩ = some (.int .i64 a0_0) := bc BK940 0
                    have hcz30_1 : wr.cell? ⟨gb940, 1, none⟩ = some (.int .i64 a0_1) := bc BK940 1
                    have hcz30_2 : wr.cell? ⟨gb940, 2, none⟩ = some (.int .i64 a0_2) := bc BK940 2
                    have hcz30_3 : wr.cell? ⟨gb940, 3, none⟩ = some (.int .i64 a0_3) := bc BK940 3
                    have hcz30_4 : wr.cell? ⟨gb940, 4, none⟩ = some (.int .i64 a0_4) := bc BK940 4
                    have hcz30_5 : wr.cell? ⟨gb940, 5, none⟩ = some (.int .i64 a0_5) := bc BK940 5
                    have hcz30_6 : wr.cell? ⟨gb940, 6, none⟩ = some (.slice A0_6 l0_6.length c0_6) := bc BK940 6
                    have hfz30_0 := blk_frozen BK940.out 0
                    have hfz30_1 := blk_frozen BK940.out 1
                    have hfz30_2 := blk_frozen BK940.out 2
                    have hfz30_3 := blk_frozen BK940.out 3
                    have hfz30_4 := blk_frozen BK940.out 4
                    have hfz30_5 := blk_frozen BK940.out 5
                    have hfz30_6 := blk_frozen BK940.out 6
                    have p942 : 0 ≤ (x5_2 : Int) := of_decide_eq_true (by first | (with_reducible assumption) | assumption)
                    have q942 : x5_2 < (l0_6.length : Int) := of_decide_eq_true (by first | (with_reducible assumption) | assumption)
                    obtain ⟨ad942, e942, hx942_0, hx942_1, hx942_2, hx942_3⟩ := at_T97 HR0_6.out x5_2 p942 q942
                    cases e942
                    replace hx942_0 := hc HB hx942_0
                    replace hx942_1 := hc HB hx942_1
                    replace hx942_2 := hc HB hx942_2
                    replace hx942_3 := hc HB hx942_3
                    replace p942 := eq_true p942
                    replace q942 := eq_true q942
                    have hcz31_0 : wr.cell? ⟨gb941, 0, none⟩ = some (.int .i64 a1_0) := bc BK941 0
                    have hcz31_1 : wr.cell? ⟨gb941, 1, none⟩ = some (.int .i64 a1_1) := bc BK941 1
                    have hcz31_2 : wr.cell? ⟨gb941, 2, none⟩ = some (.int .i64 a1_2) := bc BK941 2
                    have hcz31_3 : wr.cell? ⟨gb941, 3, none⟩ = some (.int .i64 a1_3) := bc BK941 3
                    have hcz31_4 : wr.cell? ⟨gb941, 4, none⟩ = some (.int .i64 a1_4) := bc BK941 4
                    have hcz31_5 : wr.cell? ⟨gb941, 5, none⟩ = some (.int .i64 a1_5) := bc BK941 5
                    have hcz31_6 : wr.cell? ⟨gb941, 6, none⟩ = some (.slice A1_6 l1_6.length c1_6) := bc BK941 6
                    have hfz31_0 := blk_frozen BK941.out 0
                    have hfz31_1 := blk_frozen BK941.out 1
                    have hfz31_2 := blk_frozen BK941.out 2
                    have hfz31_3 := blk_frozen BK941.out 3
                    have hfz31_4 := blk_frozen BK941.out 4
                    have hfz31_5 := blk_frozen BK941.out 5
                    have hfz31_6 := blk_frozen BK941.out 6
                    have p943 : 0 ≤ (x5_2 : Int) := of_decide_eq_true (by first | (with_reducible assumption) | assumption)
                    have q943 : x5_2 < (l1_6.length : Int) := of_decide_eq_true (by first | (with_reducible assumption) | assumption)
                    obtain ⟨ad943, e943, hx943_0, hx943_1, hx943_2, hx943_3⟩ := at_T97 HR1_6.out x5_2 p943 q943
                    cases e943
                    replace hx943_0 := hc HB hx943_0
                    replace hx943_1 := hc HB hx943_1
                    replace hx943_2 := hc HB hx943_2
                    replace hx943_3 := hc HB hx943_3
                    replace p943 := eq_true p943
                    replace q943 := eq_true q943
                    go_wp2
                    repeat (go_quiet (fail); try go_wp2)
                    go_roundg k2
                    case measure => have := HJ2.out; have := HK2.out; omega
                    case rel => exact ⟨(wrap64 (x5_2 + 1)), (by first | rfl | (simp; done) | (simp [*]; done)), H', ⟨by have := HJ2.out; have := HK2.out; omega⟩, ⟨by (with_reducible repeat (first | refine blk_drewN ?_ _ | refine blk_drew ?_ | refine blk_alloc ?_ _)); exact BK940.out⟩, ⟨by (with_reducible repeat (first | refine blk_drewN ?_ _ | refine blk_drew ?_ | refine blk_alloc ?_ _)); exact BK941.out⟩, ⟨by repeat (first | (with_reducible first | exact HB.out | apply below_alloc | apply pw_below_drewN | apply below_drew1 | refine below_set ?_ GE940.out | refine below_set ?_ GE941.out) | exact HB.out)⟩⟩
                · rw [if_neg c24] at H
                  exact absurd H (by simp)
              · rw [if_neg c23] at H
                exact absurd H (by simp)
            · rw [if_neg c22] at H
              have c22b0 : decide (x5_2 < (l0_6.length : Int)) = false := decide_eq_false c22
              clear c22
              obtain rfl := Option.some.inj H
              have hnb32 := NB940_941.out
              have hnc32 := NB941_940.out
              have hcz33_0 : wr.cell? ⟨gb940, 0, none⟩ = some (.int .i64 a0_0) := bc BK940 0
              have hcz33_1 : wr.cell? ⟨gb940, 1, none⟩ = some (.int .i64 a0_1) := bc BK940 1
              have hcz33_2 : wr.cell? ⟨gb940, 2, none⟩ = some (.int .i64 a0_2) := bc BK940 2
              have hcz33_3 : wr.cell? ⟨gb940, 3, none⟩ = some (.int .i64 a0_3) := bc BK940 3
              have hcz33_4 : wr.cell? ⟨gb940, 4, none⟩ = some (.int .i64 a0_4) := bc BK940 4
              have hcz33_5 : wr.cell? ⟨gb940, 5, none⟩ = some (.int .i64 a0_5) := bc BK940 5
              have hcz33_6 : wr.cell? ⟨gb940, 6, none⟩ = some (.slice A0_6 l0_6.length c0_6) := bc BK940 6
              have hfz33_0 := blk_frozen BK940.out 0
              have hfz33_1 := blk_frozen BK940.out 1
              have hfz33_2 := blk_frozen BK940.out 2
              have hfz33_3 := blk_frozen BK940.out 3
              have hfz33_4 := blk_frozen BK940.out 4
              have hfz33_5 := blk_frozen BK940.out 5
              have hfz33_6 := blk_frozen BK940.out 6
              go_wp2
              repeat (go_quiet (fail); try go_wp2)
              go_ret
              exact ⟨by first | rfl | (simp [errW_none, errW_some] <;> rfl) | (simp [*, errW_none, errW_some] <;> rfl), by repeat (first | (with_reducible first | exact HB.out | apply below_alloc | apply pw_below_drewN | apply below_drew1 | refine below_set ?_ GE940.out | refine below_set ?_ GE941.out) | exact HB.out)⟩

end Go.Proofs.Ytihfopblmjgfaaa.Q
