/- Texts of this session (words and printed walks, merged by wip/tools/merge.py) for the statement of the claim. -/
import Derived.Test.YtihfopblmjgfaaaMQuants1
import Derived.Test.YtihfopblmjgfaaaMQuants3
import Derived.Deep.MidRow
namespace Go.Proofs.Ytihfopblmjgfaaa.Q
open Go.RowKit Go.Proofs.YtihfopblmjgfaaaW.PrintWords Go.Proofs.YtihfopblmjgfaaaW.PrintLast Go.Proofs.YtihfopblmjgfaaaW.PrintMore
attribute [local go_sem] max2_int min2_int max_two min_two max_three min_three max_four min_four   -- for this text's walks alone
set_option linter.unusedVariables false
set_option linter.unusedSimpArgs false

/-! ### waveletref29_Quant: function 29 -/
mutual
def waveletref29_Quant.j0 : Nat → Bool → Int → Int → Int → Int → Int → List (S89) → Int → Int → Bool → Bool → Bool → Bool → Bool → Bool → Bool → Bool → List Int → Int → Int → Option (Int × List Int × Int)
  | 0, _, _, _, _, _, _, _, _, _, _, _, _, _, _, _, _, _, _, _, _ => none
  | k + 1, x15, x385000, x385001, x385002, x385003, x385004, x385005, x385006, x385007, x385008, x385009, x385010, x385011, x385012, x385013, x385014, x385015, x385016, x385017, x385018 => if x15 = true then (some (0, ([] : List Int), 2)) else ((waveletref29_put.f k (([] : List Int)) x385017 1).bind fun t390 => ((waveletref29_put.f k t390 (x385016.length : Int) 1).bind fun t393 => (waveletref29_Quant.l0 k t393 0 x385000 x385001 x385002 x385003 x385004 x385005 x385006 x385007 x385008 x385009 x385010 x385011 x385012 x385013 x385014 x385015 x385016 x385017 x385018)))
def waveletref29_Quant.l0 : Nat → List Int → Int → Int → Int → Int → Int → Int → List (S89) → Int → Int → Bool → Bool → Bool → Bool → Bool → Bool → Bool → Bool → List Int → Int → Int → Option (Int × List Int × Int)
  | 0, _, _, _, _, _, _, _, _, _, _, _, _, _, _, _, _, _, _, _, _, _ => none
  | k + 1, x4, x5, x385000, x385001, x385002, x385003, x385004, x385005, x385006, x385007, x385008, x385009, x385010, x385011, x385012, x385013, x385014, x385015, x385016, x385017, x385018 => if x5 < (x385016.length : Int) then (if 0 ≤ x5 then ((waveletref29_in.f (rd x385016 x5) 1 65536).bind fun t397 => (if t397 = true then ((waveletref29_put.f k x4 (wrap64 ((rd x385016 x5) - 1)) 2).bind fun t399 => (waveletref29_Quant.l0 k t399 (wrap64 (x5 + 1)) x385000 x385001 x385002 x385003 x385004 x385005 x385006 x385007 x385008 x385009 x385010 x385011 x385012 x385013 x385014 x385015 x385016 x385017 x385018)) else (some (0, ([] : List Int), 2)))) else (none)) else (some (65443, x4, 0))
end
def waveletref29_Quant.f (k : Nat) (a0_0 : Int) (a0_1 : Int) (a0_2 : Int) (a0_3 : Int) (a0_4 : Int) (l0_5 : List (S89)) (a0_6 : Int) (a0_7 : Int) (a0_8 : Bool) (a0_9 : Bool) (a0_10 : Bool) (a0_11 : Bool) (a0_12 : Bool) (a0_13 : Bool) (a0_14 : Bool) (a0_15 : Bool) (l0_16 : List Int) (a0_17 : Int) (a0_18 : Int) : Option (Int × List Int × Int) := (waveletref29_in.f a0_17 0 255).bind fun t386 => (if t386 = true then (waveletref29_Quant.j0 k (decide ((l0_16.length : Int) > 255)) a0_0 a0_1 a0_2 a0_3 a0_4 l0_5 a0_6 a0_7 a0_8 a0_9 a0_10 a0_11 a0_12 a0_13 a0_14 a0_15 l0_16 a0_17 a0_18) else (waveletref29_Quant.j0 k true a0_0 a0_1 a0_2 a0_3 a0_4 l0_5 a0_6 a0_7 a0_8 a0_9 a0_10 a0_11 a0_12 a0_13 a0_14 a0_15 l0_16 a0_17 a0_18))
theorem waveletref29_Quant.mono_l : ∀ k, (∀ y0 y1 y2 y3 y4 y5 y6 y7 y8 y9 y10 y11 y12 y13 y14 y15 y16 y17 y18 y19, LeO (waveletref29_Quant.j0 k y0 y1 y2 y3 y4 y5 y6 y7 y8 y9 y10 y11 y12 y13 y14 y15 y16 y17 y18 y19) (waveletref29_Quant.j0 (k + 1) y0 y1 y2 y3 y4 y5 y6 y7 y8 y9 y10 y11 y12 y13 y14 y15 y16 y17 y18 y19)) ∧ (∀ y0 y1 y2 y3 y4 y5 y6 y7 y8 y9 y10 y11 y12 y13 y14 y15 y16 y17 y18 y19 y20, LeO (waveletref29_Quant.l0 k y0 y1 y2 y3 y4 y5 y6 y7 y8 y9 y10 y11 y12 y13 y14 y15 y16 y17 y18 y19 y20) (waveletref29_Quant.l0 (k + 1) y0 y1 y2 y3 y4 y5 y6 y7 y8 y9 y10 y11 y12 y13 y14 y15 y16 y17 y18 y19 y20))
  | 0 => ⟨fun _ _ _ _ _ _ _ _ _ _ _ _ _ _ _ _ _ _ _ _ r h => by simp [waveletref29_Quant.j0] at h, fun _ _ _ _ _ _ _ _ _ _ _ _ _ _ _ _ _ _ _ _ _ r h => by simp [waveletref29_Quant.l0] at h⟩
  | k + 1 => by
    obtain ⟨ih0, ih1⟩ := waveletref29_Quant.mono_l k
    refine ⟨?_, ?_⟩
    · intro y0 y1 y2 y3 y4 y5 y6 y7 y8 y9 y10 y11 y12 y13 y14 y15 y16 y17 y18 y19
      unfold waveletref29_Quant.j0
      repeat' first
      | (with_reducible exact ih0 _ _ _ _ _ _ _ _ _ _ _ _ _ _ _ _ _ _ _ _)
      | (with_reducible exact ih1 _ _ _ _ _ _ _ _ _ _ _ _ _ _ _ _ _ _ _ _ _)
      | (with_reducible exact waveletref29_put.mono _ _ _ _)
      | (with_reducible exact LeO.refl _)
      | (with_reducible exact LeO.none _)
      | (with_reducible refine LeO.ite ?_ ?_)
      | (with_reducible refine LeO.bind ?_ (fun _ => ?_))
      | exact ih0 _ _ _ _ _ _ _ _ _ _ _ _ _ _ _ _ _ _ _ _
      | exact ih1 _ _ _ _ _ _ _ _ _ _ _ _ _ _ _ _ _ _ _ _ _
      | exact waveletref29_put.mono _ _ _ _
      | exact LeO.none _
      | refine LeO.ite ?_ ?_
      | refine LeO.bind ?_ (fun _ => ?_)
    · intro y0 y1 y2 y3 y4 y5 y6 y7 y8 y9 y10 y11 y12 y13 y14 y15 y16 y17 y18 y19 y20
      unfold waveletref29_Quant.l0
      repeat' first
      | (with_reducible exact ih0 _ _ _ _ _ _ _ _ _ _ _ _ _ _ _ _ _ _ _ _)
      | (with_reducible exact ih1 _ _ _ _ _ _ _ _ _ _ _ _ _ _ _ _ _ _ _ _ _)
      | (with_reducible exact waveletref29_put.mono _ _ _ _)
      | (with_reducible exact LeO.refl _)
      | (with_reducible exact LeO.none _)
      | (with_reducible refine LeO.ite ?_ ?_)
      | (with_reducible refine LeO.bind ?_ (fun _ => ?_))
      | exact ih0 _ _ _ _ _ _ _ _ _ _ _ _ _ _ _ _ _ _ _ _
      | exact ih1 _ _ _ _ _ _ _ _ _ _ _ _ _ _ _ _ _ _ _ _ _
      | exact waveletref29_put.mono _ _ _ _
      | exact LeO.none _
      | refine LeO.ite ?_ ?_
      | refine LeO.bind ?_ (fun _ => ?_)
theorem waveletref29_Quant.mono : ∀ a0 a1 a2 a3 a4 a5 a6 a7 a8 a9 a10 a11 a12 a13 a14 a15 a16 a17 a18 k, LeO (waveletref29_Quant.f k a0 a1 a2 a3 a4 a5 a6 a7 a8 a9 a10 a11 a12 a13 a14 a15 a16 a17 a18) (waveletref29_Quant.f (k + 1) a0 a1 a2 a3 a4 a5 a6 a7 a8 a9 a10 a11 a12 a13 a14 a15 a16 a17 a18) := by
  intro a0 a1 a2 a3 a4 a5 a6 a7 a8 a9 a10 a11 a12 a13 a14 a15 a16 a17 a18 k
  obtain ⟨ih0, ih1⟩ := waveletref29_Quant.mono_l k
  unfold waveletref29_Quant.f
  repeat' first
      | (with_reducible exact ih0 _ _ _ _ _ _ _ _ _ _ _ _ _ _ _ _ _ _ _ _)
      | (with_reducible exact ih1 _ _ _ _ _ _ _ _ _ _ _ _ _ _ _ _ _ _ _ _ _)
      | (with_reducible exact waveletref29_put.mono _ _ _ _)
      | (with_reducible exact LeO.refl _)
      | (with_reducible exact LeO.none _)
      | (with_reducible refine LeO.ite ?_ ?_)
      | (with_reducible refine LeO.bind ?_ (fun _ => ?_))
      | exact ih0 _ _ _ _ _ _ _ _ _ _ _ _ _ _ _ _ _ _ _ _
      | exact ih1 _ _ _ _ _ _ _ _ _ _ _ _ _ _ _ _ _ _ _ _ _
      | exact waveletref29_put.mono _ _ _ _
      | exact LeO.none _
      | refine LeO.ite ?_ ?_
      | refine LeO.bind ?_ (fun _ => ?_)
def waveletref29_Quant.T3 : Bool × List (List Nat × List Nat) := (true, [([], []), ([], []), ([1], [1]), ([0, 2], [0, 2]), ([], []), ([4], [4]), ([5], [5]), ([3, 6, 3], [3, 6]), ([7, 7, 0, 1, 2, 3, 4, 5, 6, 7], [7])])
def waveletref29_Quant.B3 : List Nat := [0, 0, 2, 7, 0, 16, 48, 127, 255]
theorem waveletref29_Quant.tab3 : rtab .any (opsOf Try.f29 3) = waveletref29_Quant.T3 := by kernel_rfl
theorem waveletref29_Quant.bits3 : waitsOk waveletref29_Quant.T3.2 waveletref29_Quant.B3 = true := by kernel_rfl
set_option maxHeartbeats 8000000 in
set_option maxRecDepth 100000 in
theorem waveletref29_Quant.calls (k : Nat) (a0_0 : Int) (a0_1 : Int) (a0_2 : Int) (a0_3 : Int) (a0_4 : Int) (A0_5 : Option Addr) (c0_5 : Nat) (l0_5 : List (S89)) (a0_6 : Int) (a0_7 : Int) (a0_8 : Bool) (a0_9 : Bool) (a0_10 : Bool) (a0_11 : Bool) (a0_12 : Bool) (a0_13 : Bool) (a0_14 : Bool) (a0_15 : Bool) (A0_16 : Option Addr) (c0_16 : Nat) (l0_16 : List Int) (a0_17 : Int) (a0_18 : Int) (r1 : Int) (r2 : List Int) (r3 : Int) (w : World) (hr0_5 : Kd.C k89 w A0_5 l0_5.length l0_5) (hc0_5 : l0_5.length ≤ c0_5) (hr0_16 : Kd.C (Kd.int .i64) w A0_16 l0_16.length l0_16) (hc0_16 : l0_16.length ≤ c0_16) (h : waveletref29_Quant.f k a0_0 a0_1 a0_2 a0_3 a0_4 l0_5 a0_6 a0_7 a0_8 a0_9 a0_10 a0_11 a0_12 a0_13 a0_14 a0_15 l0_16 a0_17 a0_18 = some (r1, r2, r3)) :
    Calls Try.prog 29 #[.agg #[.int .i64 a0_0, .int .i64 a0_1, .int .i64 a0_2, .int .i64 a0_3, .int .i64 a0_4, .slice A0_5 l0_5.length c0_5, .int .i64 a0_6, .int .i64 a0_7, .bool a0_8, .bool a0_9, .bool a0_10, .bool a0_11, .bool a0_12, .bool a0_13, .bool a0_14, .bool a0_15, .slice A0_16 l0_16.length c0_16, .int .i64 a0_17, .int .i64 a0_18]] w fun e w' => ∃ v1_ : Value, e = .returned (.tuple #[.agg #[.int .i64 r1, v1_], .int .i64 r3]) ∧ Kd.R (Kd.int .u8) 5 w' w.heap.size (fun _ => True) v1_ r2 ∧ Below w.heap.size w w' := by
  have hu55 := Try.underlying55
  have hu26 := Try.underlying26
  have HR0_5 := Aside0.mk hr0_5
  have HC0_5 := Aside0.mk hc0_5
  clear hr0_5 hc0_5
  have HR0_16 := Aside0.mk hr0_16
  have HC0_16 := Aside0.mk hc0_16
  clear hr0_16 hc0_16
  have HB := Aside0.mk (Below.refl w.heap.size w)
  have H : ((waveletref29_in.f a0_17 0 255).bind fun t386 => (if t386 = true then (waveletref29_Quant.j0 k (decide ((l0_16.length : Int) > 255)) a0_0 a0_1 a0_2 a0_3 a0_4 l0_5 a0_6 a0_7 a0_8 a0_9 a0_10 a0_11 a0_12 a0_13 a0_14 a0_15 l0_16 a0_17 a0_18) else (waveletref29_Quant.j0 k true a0_0 a0_1 a0_2 a0_3 a0_4 l0_5 a0_6 a0_7 a0_8 a0_9 a0_10 a0_11 a0_12 a0_13 a0_14 a0_15 l0_16 a0_17 a0_18))) = some (r1, r2, r3) := h
  clear h
  have HC2 := Aside0.mk H
  clear H
  go_enter Try.func29, Try.ntmps29
  go_upto_region 1 with (first | ((with_reducible refine gate_dst (N := 1) rfl ?_); (try (refine gate_guard (by rfl) ?_; dsimp only)); refine box_event ?hg (N := 1) ?hd (cs := #[.int .i64 a0_0, .int .i64 a0_1, .int .i64 a0_2, .int .i64 a0_3, .int .i64 a0_4, .slice A0_5 l0_5.length c0_5, .int .i64 a0_6, .int .i64 a0_7, .bool a0_8, .bool a0_9, .bool a0_10, .bool a0_11, .bool a0_12, .bool a0_13, .bool a0_14, .bool a0_15, .slice A0_16 l0_16.length c0_16, .int .i64 a0_17, .int .i64 a0_18]) (t := 55) ?hr ?_; (case hd => rfl); (case hg => rfl); (case hr => first | (go_simp; done) | (go_simp; rfl)); intro gb384 hg w3 hbox hb; have n0_ := Aside0.mk (below_step (by repeat (first | (with_reducible first | exact HB.out | apply below_alloc | apply pw_below_drewN | apply below_drew1) | exact HB.out)) hb); have n1_ := Aside0.mk (hbox); have n2_ := Aside0.mk ((by rw [hg]; exact (below_size (by repeat (first | (with_reducible first | exact HB.out | apply below_alloc | apply pw_below_drewN | apply below_drew1) | exact HB.out))) : w.heap.size ≤ gb384)); have n3_ := Aside0.mk ((by rw [hg]; exact (below_size (by repeat (first | (with_reducible first | exact HB.out | apply below_alloc | apply pw_below_drewN | apply below_drew1) | exact HB.out))) : w.heap.size ≤ gb384)); clear HB; have HB := n0_; have BK384 := n1_; have GW384 := n2_; have GE384 := n3_; clear n0_ n1_ n2_ n3_; clear hb hbox hg) | ((with_reducible refine gate_dst (N := 2) rfl ?_); (try (refine gate_guard (by rfl) ?_; dsimp only)); refine box_event ?hg (N := 2) ?hd (cs := #[.int .i64 0, .slice none 0 0]) (t := 26) ?hr ?_; (case hd => rfl); (case hg => rfl); (case hr => first | (go_simp; done) | (go_simp; rfl)); intro gb385 hg w4 hbox hb; have n0_ := Aside0.mk (blk_below (g := gb384) (o := .cells #[.int .i64 a0_0, .int .i64 a0_1, .int .i64 a0_2, .int .i64 a0_3, .int .i64 a0_4, .slice A0_5 l0_5.length c0_5, .int .i64 a0_6, .int .i64 a0_7, .bool a0_8, .bool a0_9, .bool a0_10, .bool a0_11, .bool a0_12, .bool a0_13, .bool a0_14, .bool a0_15, .slice A0_16 l0_16.length c0_16, .int .i64 a0_17, .int .i64 a0_18] 55 (0, 0)) (by (with_reducible repeat (first | refine blk_drewN ?_ _ | refine blk_drew ?_ | refine blk_alloc ?_ _)); exact BK384.out) hb); have n1_ := Aside0.mk (below_step (by repeat (first | (with_reducible first | exact HB.out | apply below_alloc | apply pw_below_drewN | apply below_drew1 | refine below_set ?_ GE384.out) | exact HB.out)) hb); have n2_ := Aside0.mk (hbox); have n3_ := Aside0.mk ((by rw [hg]; exact (below_size (by repeat (first | (with_reducible first | exact HB.out | apply below_alloc | apply pw_below_drewN | apply below_drew1 | refine below_set ?_ GE384.out) | exact HB.out))) : w.heap.size ≤ gb385)); have n4_ := Aside0.mk ((by rw [hg]; exact (below_size (by repeat (first | (with_reducible first | exact HB.out | apply below_alloc | apply pw_below_drewN | apply below_drew1 | refine below_set ?_ GE384.out) | exact HB.out))) : w.heap.size ≤ gb385)); have n5_ := Aside0.mk ((by rw [hg]; exact Nat.ne_of_lt (blk_lt (g := gb384) (o := .cells #[.int .i64 a0_0, .int .i64 a0_1, .int .i64 a0_2, .int .i64 a0_3, .int .i64 a0_4, .slice A0_5 l0_5.length c0_5, .int .i64 a0_6, .int .i64 a0_7, .bool a0_8, .bool a0_9, .bool a0_10, .bool a0_11, .bool a0_12, .bool a0_13, .bool a0_14, .bool a0_15, .slice A0_16 l0_16.length c0_16, .int .i64 a0_17, .int .i64 a0_18] 55 (0, 0)) (by (with_reducible repeat (first | refine blk_drewN ?_ _ | refine blk_drew ?_ | refine blk_alloc ?_ _)); exact BK384.out)) : gb384 ≠ gb385)); have n6_ := Aside0.mk ((by rw [hg]; exact Nat.ne_of_gt (blk_lt (g := gb384) (o := .cells #[.int .i64 a0_0, .int .i64 a0_1, .int .i64 a0_2, .int .i64 a0_3, .int .i64 a0_4, .slice A0_5 l0_5.length c0_5, .int .i64 a0_6, .int .i64 a0_7, .bool a0_8, .bool a0_9, .bool a0_10, .bool a0_11, .bool a0_12, .bool a0_13, .bool a0_14, .bool a0_15, .slice A0_16 l0_16.length c0_16, .int .i64 a0_17, .int .i64 a0_18] 55 (0, 0)) (by (with_reducible repeat (first | refine blk_drewN ?_ _ | refine blk_drew ?_ | refine blk_alloc ?_ _)); exact BK384.out)) : gb385 ≠ gb384)); clear BK384; clear HB; have BK384 := n0_; have HB := n1_; have BK385 := n2_; have GW385 := n3_; have GE385 := n4_; have NB384_385 := n5_; have NB385_384 := n6_; clear n0_ n1_ n2_ n3_ n4_ n5_ n6_; clear hb hbox hg))
  (try simp only [Act.put, List.setIfInBounds_toArray, List.set_cons_zero, List.set_cons_succ])
  go_cut [15] (fun v15 wc => ∃ (kq : Nat) (x15_1 : Bool), v15 = .bool x15_1 ∧ Aside0 (waveletref29_Quant.j0 kq x15_1 a0_0 a0_1 a0_2 a0_3 a0_4 l0_5 a0_6 a0_7 a0_8 a0_9 a0_10 a0_11 a0_12 a0_13 a0_14 a0_15 l0_16 a0_17 a0_18 = some (r1, r2, r3)) ∧ Aside0 (kq ≤ k) ∧ Aside0 (wc.heap[gb384]? = some (.cells #[.int .i64 a0_0, .int .i64 a0_1, .int .i64 a0_2, .int .i64 a0_3, .int .i64 a0_4, (.slice A0_5 l0_5.length c0_5), .int .i64 a0_6, .int .i64 a0_7, .bool a0_8, .bool a0_9, .bool a0_10, .bool a0_11, .bool a0_12, .bool a0_13, .bool a0_14, .bool a0_15, (.slice A0_16 l0_16.length c0_16), .int .i64 a0_17, .int .i64 a0_18] 55 (0, 0))) ∧ Aside0 (wc.heap[gb385]? = some (.cells #[.int .i64 0, (.slice none 0 0)] 26 (0, 0))) ∧ Aside0 (Below w.heap.size w wc))
  case first =>
    have H := HC2.out
    clear HC2
    replace H := Option.bind_eq_some_iff.mp H
    obtain ⟨t386, A50, H⟩ := H
    replace H : (if t386 = true then (waveletref29_Quant.j0 k (decide ((l0_16.length : Int) > 255)) a0_0 a0_1 a0_2 a0_3 a0_4 l0_5 a0_6 a0_7 a0_8 a0_9 a0_10 a0_11 a0_12 a0_13 a0_14 a0_15 l0_16 a0_17 a0_18) else (waveletref29_Quant.j0 k true a0_0 a0_1 a0_2 a0_3 a0_4 l0_5 a0_6 a0_7 a0_8 a0_9 a0_10 a0_11 a0_12 a0_13 a0_14 a0_15 l0_16 a0_17 a0_18)) = some (r1, r2, r3) := H
    have A5 := Aside0.mk A50
    clear A50
    by_cases c6 : t386 = true
    · subst c6
      have H1 : (waveletref29_Quant.j0 k (decide ((l0_16.length : Int) > 255)) a0_0 a0_1 a0_2 a0_3 a0_4 l0_5 a0_6 a0_7 a0_8 a0_9 a0_10 a0_11 a0_12 a0_13 a0_14 a0_15 l0_16 a0_17 a0_18) = some (r1, r2, r3) := by rw [if_pos rfl] at H; exact H
      clear H
      have H := H1
      clear H1
      have H' := Aside0.mk H
      clear H
      have hnb7 := NB384_385.out
      have hnc7 := NB385_384.out
      have hcz8_0 : w4.cell? ⟨gb384, 0, none⟩ = some (.int .i64 a0_0) := (blk_cell BK384.out 0).trans rfl
      have hcz8_1 : w4.cell? ⟨gb384, 1, none⟩ = some (.int .i64 a0_1) := (blk_cell BK384.out 1).trans rfl
      have hcz8_2 : w4.cell? ⟨gb384, 2, none⟩ = some (.int .i64 a0_2) := (blk_cell BK384.out 2).trans rfl
      have hcz8_3 : w4.cell? ⟨gb384, 3, none⟩ = some (.int .i64 a0_3) := (blk_cell BK384.out 3).trans rfl
      have hcz8_4 : w4.cell? ⟨gb384, 4, none⟩ = some (.int .i64 a0_4) := (blk_cell BK384.out 4).trans rfl
      have hcz8_5 : w4.cell? ⟨gb384, 5, none⟩ = some (.slice A0_5 l0_5.length c0_5) := (blk_cell BK384.out 5).trans rfl
      have hcz8_6 : w4.cell? ⟨gb384, 6, none⟩ = some (.int .i64 a0_6) := (blk_cell BK384.out 6).trans rfl
      have hcz8_7 : w4.cell? ⟨gb384, 7, none⟩ = some (.int .i64 a0_7) := (blk_cell BK384.out 7).trans rfl
      have hcz8_8 : w4.cell? ⟨gb384, 8, none⟩ = some (.bool a0_8) := (blk_cell BK384.out 8).trans rfl
      have hcz8_9 : w4.cell? ⟨gb384, 9, none⟩ = some (.bool a0_9) := (blk_cell BK384.out 9).trans rfl
      have hcz8_10 : w4.cell? ⟨gb384, 10, none⟩ = some (.bool a0_10) := (blk_cell BK384.out 10).trans rfl
      have hcz8_11 : w4.cell? ⟨gb384, 11, none⟩ = some (.bool a0_11) := (blk_cell BK384.out 11).trans rfl
      have hcz8_12 : w4.cell? ⟨gb384, 12, none⟩ = some (.bool a0_12) := (blk_cell BK384.out 12).trans rfl
      have hcz8_13 : w4.cell? ⟨gb384, 13, none⟩ = some (.bool a0_13) := (blk_cell BK384.out 13).trans rfl
      have hcz8_14 : w4.cell? ⟨gb384, 14, none⟩ = some (.bool a0_14) := (blk_cell BK384.out 14).trans rfl
      have hcz8_15 : w4.cell? ⟨gb384, 15, none⟩ = some (.bool a0_15) := (blk_cell BK384.out 15).trans rfl
      have hcz8_16 : w4.cell? ⟨gb384, 16, none⟩ = some (.slice A0_16 l0_16.length c0_16) := (blk_cell BK384.out 16).trans rfl
      have hcz8_17 : w4.cell? ⟨gb384, 17, none⟩ = some (.int .i64 a0_17) := (blk_cell BK384.out 17).trans rfl
      have hcz8_18 : w4.cell? ⟨gb384, 18, none⟩ = some (.int .i64 a0_18) := (blk_cell BK384.out 18).trans rfl
      have hfz8_0 := blk_frozen BK384.out 0
      have hfz8_1 := blk_frozen BK384.out 1
      have hfz8_2 := blk_frozen BK384.out 2
      have hfz8_3 := blk_frozen BK384.out 3
      have hfz8_4 := blk_frozen BK384.out 4
      have hfz8_5 := blk_frozen BK384.out 5
      have hfz8_6 := blk_frozen BK384.out 6
      have hfz8_7 := blk_frozen BK384.out 7
      have hfz8_8 := blk_frozen BK384.out 8
      have hfz8_9 := blk_frozen BK384.out 9
      have hfz8_10 := blk_frozen BK384.out 10
      have hfz8_11 := blk_frozen BK384.out 11
      have hfz8_12 := blk_frozen BK384.out 12
      have hfz8_13 := blk_frozen BK384.out 13
      have hfz8_14 := blk_frozen BK384.out 14
      have hfz8_15 := blk_frozen BK384.out 15
      have hfz8_16 := blk_frozen BK384.out 16
      have hfz8_17 := blk_frozen BK384.out 17
      have hfz8_18 := blk_frozen BK384.out 18
      go_wp2_with (first | ((with_reducible refine gate_callee (f := 45) rfl ?_); refine goesL_ (some 8) rfl rfl Try.func45 (by kernel_rfl) rfl #[.int .i64 a0_17, .int .i64 0, .int .i64 255] rfl (by (try simp only [List.map_toArray, List.map_cons, List.map_nil]); first | done | rfl | (simp only [List.length_drop, List.length_take]; rfl)) ?_; (with_reducible refine (waveletref29_in.calls a0_17 0 255 true _ A5.out).mono ?_); rintro e w' ⟨rfl, ⟨nd, rfl⟩⟩; refine ⟨_, rfl, ?_⟩))
      go_meet
      case rel => exact ⟨_, (decide ((l0_16.length : Int) > 255)), (by first | rfl | (simp; done) | (simp [*]; done)), H', ⟨by first | omega | exact Nat.le_refl _⟩, ⟨by (with_reducible repeat (first | refine blk_drewN ?_ _ | refine blk_drew ?_ | refine blk_alloc ?_ _)); exact BK384.out⟩, ⟨by (with_reducible repeat (first | refine blk_drewN ?_ _ | refine blk_drew ?_ | refine blk_alloc ?_ _)); exact BK385.out⟩, ⟨by repeat (first | (with_reducible first | exact HB.out | apply below_alloc | apply pw_below_drewN | apply below_drew1 | refine below_set ?_ GE384.out | refine below_set ?_ GE385.out) | exact HB.out)⟩⟩
    · replace c6 := Bool.eq_false_iff.mpr c6
      subst c6
      have H1 : (waveletref29_Quant.j0 k true a0_0 a0_1 a0_2 a0_3 a0_4 l0_5 a0_6 a0_7 a0_8 a0_9 a0_10 a0_11 a0_12 a0_13 a0_14 a0_15 l0_16 a0_17 a0_18) = some (r1, r2, r3) := by rw [if_neg (show ¬ (false = true) by decide)] at H; exact H
      clear H
      have H := H1
      clear H1
      have H' := Aside0.mk H
      clear H
      have hnb9 := NB384_385.out
      have hnc9 := NB385_384.out
      have hcz10_0 : w4.cell? ⟨gb384, 0, none⟩ = some (.int .i64 a0_0) := (blk_cell BK384.out 0).trans rfl
      have hcz10_1 : w4.cell? ⟨gb384, 1, none⟩ = some (.int .i64 a0_1) := (blk_cell BK384.out 1).trans rfl
      have hcz10_2 : w4.cell? ⟨gb384, 2, none⟩ = some (.int .i64 a0_2) := (blk_cell BK384.out 2).trans rfl
      have hcz10_3 : w4.cell? ⟨gb384, 3, none⟩ = some (.int .i64 a0_3) := (blk_cell BK384.out 3).trans rfl
      have hcz10_4 : w4.cell? ⟨gb384, 4, none⟩ = some (.int .i64 a0_4) := (blk_cell BK384.out 4).trans rfl
      have hcz10_5 : w4.cell? ⟨gb384, 5, none⟩ = some (.slice A0_5 l0_5.length c0_5) := (blk_cell BK384.out 5).trans rfl
      have hcz10_6 : w4.cell? ⟨gb384, 6, none⟩ = some (.int .i64 a0_6) := (blk_cell BK384.out 6).trans rfl
      have hcz10_7 : w4.cell? ⟨gb384, 7, none⟩ = some (.int .i64 a0_7) := (blk_cell BK384.out 7).trans rfl
      have hcz10_8 : w4.cell? ⟨gb384, 8, none⟩ = some (.bool a0_8) := (blk_cell BK384.out 8).trans rfl
      have hcz10_9 : w4.cell? ⟨gb384, 9, none⟩ = some (.bool a0_9) := (blk_cell BK384.out 9).trans rfl
      have hcz10_10 : w4.cell? ⟨gb384, 10, none⟩ = some (.bool a0_10) := (blk_cell BK384.out 10).trans rfl
      have hcz10_11 : w4.cell? ⟨gb384, 11, none⟩ = some (.bool a0_11) := (blk_cell BK384.out 11).trans rfl
      have hcz10_12 : w4.cell? ⟨gb384, 12, none⟩ = some (.bool a0_12) := (blk_cell BK384.out 12).trans rfl
      have hcz10_13 : w4.cell? ⟨gb384, 13, none⟩ = some (.bool a0_13) := (blk_cell BK384.out 13).trans rfl
      have hcz10_14 : w4.cell? ⟨gb384, 14, none⟩ = some (.bool a0_14) := (blk_cell BK384.out 14).trans rfl
      have hcz10_15 : w4.cell? ⟨gb384, 15, none⟩ = some (.bool a0_15) := (blk_cell BK384.out 15).trans rfl
      have hcz10_16 : w4.cell? ⟨gb384, 16, none⟩ = some (.slice A0_16 l0_16.length c0_16) := (blk_cell BK384.out 16).trans rfl
      have hcz10_17 : w4.cell? ⟨gb384, 17, none⟩ = some (.int .i64 a0_17) := (blk_cell BK384.out 17).trans rfl
      have hcz10_18 : w4.cell? ⟨gb384, 18, none⟩ = some (.int .i64 a0_18) := (blk_cell BK384.out 18).trans rfl
      have hfz10_0 := blk_frozen BK384.out 0
      have hfz10_1 := blk_frozen BK384.out 1
      have hfz10_2 := blk_frozen BK384.out 2
      have hfz10_3 := blk_frozen BK384.out 3
      have hfz10_4 := blk_frozen BK384.out 4
      have hfz10_5 := blk_frozen BK384.out 5
      have hfz10_6 := blk_frozen BK384.out 6
      have hfz10_7 := blk_frozen BK384.out 7
      have hfz10_8 := blk_frozen BK384.out 8
      have hfz10_9 := blk_frozen BK384.out 9
      have hfz10_10 := blk_frozen BK384.out 10
      have hfz10_11 := blk_frozen BK384.out 11
      have hfz10_12 := blk_frozen BK384.out 12
      have hfz10_13 := blk_frozen BK384.out 13
      have hfz10_14 := blk_frozen BK384.out 14
      have hfz10_15 := blk_frozen BK384.out 15
      have hfz10_16 := blk_frozen BK384.out 16
      have hfz10_17 := blk_frozen BK384.out 17
      have hfz10_18 := blk_frozen BK384.out 18
      go_wp2_with (first | ((with_reducible refine gate_callee (f := 45) rfl ?_); refine goesL_ (some 8) rfl rfl Try.func45 (by kernel_rfl) rfl #[.int .i64 a0_17, .int .i64 0, .int .i64 255] rfl (by (try simp only [List.map_toArray, List.map_cons, List.map_nil]); first | done | rfl | (simp only [List.length_drop, List.length_take]; rfl)) ?_; (with_reducible refine (waveletref29_in.calls a0_17 0 255 false _ A5.out).mono ?_); rintro e w' ⟨rfl, ⟨nd, rfl⟩⟩; refine ⟨_, rfl, ?_⟩))
      go_meet
      case rel => exact ⟨_, (true), (by first | rfl | (simp; done) | (simp [*]; done)), H', ⟨by first | omega | exact Nat.le_refl _⟩, ⟨by (with_reducible repeat (first | refine blk_drewN ?_ _ | refine blk_drew ?_ | refine blk_alloc ?_ _)); exact BK384.out⟩, ⟨by (with_reducible repeat (first | refine blk_drewN ?_ _ | refine blk_drew ?_ | refine blk_alloc ?_ _)); exact BK385.out⟩, ⟨by repeat (first | (with_reducible first | exact HB.out | apply below_alloc | apply pw_below_drewN | apply below_drew1 | refine below_set ?_ GE384.out | refine below_set ?_ GE385.out) | exact HB.out)⟩⟩
  case rest =>
    clear HC2
    try clear c2
    try clear p2
    try clear c4
    try clear c6
    try clear c7
    try clear c9
    try clear hcz10_0
    try clear hcz10_1
    try clear hcz10_10
    try clear hcz10_11
    try clear hcz10_12
    try clear hcz10_13
    try clear hcz10_14
    try clear hcz10_15
    try clear hcz10_16
    try clear hcz10_17
    try clear hcz10_18
    try clear hcz10_2
    try clear hcz10_3
    try clear hcz10_4
    try clear hcz10_5
    try clear hcz10_6
    try clear hcz10_7
    try clear hcz10_8
    try clear hcz10_9
    try clear hcz8_0
    try clear hcz8_1
    try clear hcz8_10
    try clear hcz8_11
    try clear hcz8_12
    try clear hcz8_13
    try clear hcz8_14
    try clear hcz8_15
    try clear hcz8_16
    try clear hcz8_17
    try clear hcz8_18
    try clear hcz8_2
    try clear hcz8_3
    try clear hcz8_4
    try clear hcz8_5
    try clear hcz8_6
    try clear hcz8_7
    try clear hcz8_8
    try clear hcz8_9
    try clear hfz10_0
    try clear hfz10_1
    try clear hfz10_10
    try clear hfz10_11
    try clear hfz10_12
    try clear hfz10_13
    try clear hfz10_14
    try clear hfz10_15
    try clear hfz10_16
    try clear hfz10_17
    try clear hfz10_18
    try clear hfz10_2
    try clear hfz10_3
    try clear hfz10_4
    try clear hfz10_5
    try clear hfz10_6
    try clear hfz10_7
    try clear hfz10_8
    try clear hfz10_9
    try clear hfz8_0
    try clear hfz8_1
    try clear hfz8_10
    try clear hfz8_11
    try clear hfz8_12
    try clear hfz8_13
    try clear hfz8_14
    try clear hfz8_15
    try clear hfz8_16
    try clear hfz8_17
    try clear hfz8_18
    try clear hfz8_2
    try clear hfz8_3
    try clear hfz8_4
    try clear hfz8_5
    try clear hfz8_6
    try clear hfz8_7
    try clear hfz8_8
    try clear hfz8_9
    obtain ⟨kq, x15_1, rfl, HA, HJ1, BK384, BK385, HB⟩ := hcut
    cases kq with
    | zero => exact absurd HA.out (by simp [waveletref29_Quant.j0])
    | succ kj1 =>
      have H := HA.out
      clear HA
      simp only [waveletref29_Quant.j0] at H
      by_cases c11 : x15_1 = true
      · subst c11
        have H1 : (some (0, ([] : List Int), 2)) = some (r1, r2, r3) := by rw [if_pos rfl] at H; exact H
        clear H
        have H := H1
        clear H1
        simp only [Option.some.injEq, Prod.mk.injEq] at H
        obtain ⟨rfl, rfl, rfl⟩ := H
        have hnb12 := NB385_384.out
        have hnc12 := NB384_385.out
        have hcz13_0 : wc.cell? ⟨gb385, 0, none⟩ = some (.int .i64 0) := (blk_cell BK385.out 0).trans rfl
        have hcz13_1 : wc.cell? ⟨gb385, 1, none⟩ = some (.slice none 0 0) := (blk_cell BK385.out 1).trans rfl
        have hfz13_0 := blk_frozen BK385.out 0
        have hfz13_1 := blk_frozen BK385.out 1
        go_wp2
        refine bodyPost_ret (results_ct rfl _ _ gb385 26 #[.int .i64 0, .slice none 0 0] (0, 0) _ rfl (by (with_reducible repeat (first | refine blk_drewN ?_ _ | refine blk_drew ?_ | refine blk_alloc ?_ _)); refine blk_put (cs := #[.int .i64 0, .slice none 0 0]) ?_ 1 _ rfl; (with_reducible repeat (first | refine blk_drewN ?_ _ | refine blk_drew ?_ | refine blk_alloc ?_ _)); refine blk_put (cs := #[.int .i64 0, .slice none 0 0]) ?_ 0 _ rfl; (with_reducible repeat (first | refine blk_drewN ?_ _ | refine blk_drew ?_ | refine blk_alloc ?_ _)); exact BK385.out) Try.underlying26 rfl (by kernel_rfl)) rfl ?_
        exact ⟨_, by first | rfl | (simp [errW_none, errW_some] <;> rfl) | (simp [*, errW_none, errW_some] <;> rfl), by first | exact Kd.R_nil _ _ _ _ _ | exact Kd.N_nil _ _ _ _ _ | exact Kd.V_nil _ _ _ _ _ | exact Kd.Q_nil _ _ _ _ _ | exact Kd.S_nil _ _ _ _ _, by repeat (first | (with_reducible first | exact HB.out | apply below_alloc | apply pw_below_drewN | apply below_drew1 | refine below_set ?_ GE384.out | refine below_set ?_ GE385.out) | exact HB.out)⟩
      · replace c11 := Bool.eq_false_iff.mpr c11
        subst c11
        have H1 : ((waveletref29_put.f kj1 (([] : List Int)) a0_17 1).bind fun t390 => ((waveletref29_put.f kj1 t390 (l0_16.length : Int) 1).bind fun t393 => (waveletref29_Quant.l0 kj1 t393 0 a0_0 a0_1 a0_2 a0_3 a0_4 l0_5 a0_6 a0_7 a0_8 a0_9 a0_10 a0_11 a0_12 a0_13 a0_14 a0_15 l0_16 a0_17 a0_18))) = some (r1, r2, r3) := by rw [if_neg (show ¬ (false = true) by decide)] at H; exact H
        clear H
        have H := H1
        clear H1
        obtain ⟨y387, hy387⟩ : ∃ y_ : List Int, y_ = (([] : List Int)) := ⟨_, rfl⟩
        replace H : ((waveletref29_put.f kj1 y387 a0_17 1).bind fun t390 => ((waveletref29_put.f kj1 t390 (l0_16.length : Int) 1).bind fun t393 => (waveletref29_Quant.l0 kj1 t393 0 a0_0 a0_1 a0_2 a0_3 a0_4 l0_5 a0_6 a0_7 a0_8 a0_9 a0_10 a0_11 a0_12 a0_13 a0_14 a0_15 l0_16 a0_17 a0_18))) = some (r1, r2, r3) := by first | (rw [hy387]; with_reducible exact H) | (have H2_ := (Option.bind_some _ _).symm.trans H; rw [hy387]; with_reducible exact H2_) | (have H2_ := (Option.bind_some _ _).symm.trans H; with_reducible exact H2_) | with_reducible exact H | (rw [hy387]; exact H) | exact H
        have Ny387 := Aside0.mk hy387
        clear hy387
        replace H := Option.bind_eq_some_iff.mp H
        obtain ⟨t390, A140, H⟩ := H
        replace H : ((waveletref29_put.f kj1 t390 (l0_16.length : Int) 1).bind fun t393 => (waveletref29_Quant.l0 kj1 t393 0 a0_0 a0_1 a0_2 a0_3 a0_4 l0_5 a0_6 a0_7 a0_8 a0_9 a0_10 a0_11 a0_12 a0_13 a0_14 a0_15 l0_16 a0_17 a0_18)) = some (r1, r2, r3) := H
        have A14 := Aside0.mk A140
        clear A140
        replace H := Option.bind_eq_some_iff.mp H
        obtain ⟨t393, A150, H⟩ := H
        replace H : (waveletref29_Quant.l0 kj1 t393 0 a0_0 a0_1 a0_2 a0_3 a0_4 l0_5 a0_6 a0_7 a0_8 a0_9 a0_10 a0_11 a0_12 a0_13 a0_14 a0_15 l0_16 a0_17 a0_18) = some (r1, r2, r3) := H
        have A15 := Aside0.mk A150
        clear A150
        have H' := Aside0.mk H
        clear H
        try go_wp2
        have n0_ := Aside0.mk (blk_drew BK384.out)
        have n1_ := Aside0.mk (blk_drew BK385.out)
        have n2_ := Aside0.mk (below_drew1 HB.out)
        clear BK384
        clear BK385
        clear HB
        have BK384 := n0_
        have BK385 := n1_
        have HB := n2_
        clear n0_ n1_ n2_
        refine start_ (n := 9) (S := fun w' => w'.cell? ⟨gb384, 0, none⟩ = some (.int .i64 a0_0) ∧ w'.cell? ⟨gb384, 1, none⟩ = some (.int .i64 a0_1) ∧ w'.cell? ⟨gb384, 2, none⟩ = some (.int .i64 a0_2) ∧ w'.cell? ⟨gb384, 3, none⟩ = some (.int .i64 a0_3) ∧ w'.cell? ⟨gb384, 4, none⟩ = some (.int .i64 a0_4) ∧ w'.cell? ⟨gb384, 5, none⟩ = some (.slice A0_5 l0_5.length c0_5) ∧ w'.cell? ⟨gb384, 6, none⟩ = some (.int .i64 a0_6) ∧ w'.cell? ⟨gb384, 7, none⟩ = some (.int .i64 a0_7) ∧ w'.cell? ⟨gb384, 8, none⟩ = some (.bool a0_8) ∧ w'.cell? ⟨gb384, 9, none⟩ = some (.bool a0_9) ∧ w'.cell? ⟨gb384, 10, none⟩ = some (.bool a0_10) ∧ w'.cell? ⟨gb384, 11, none⟩ = some (.bool a0_11) ∧ w'.cell? ⟨gb384, 12, none⟩ = some (.bool a0_12) ∧ w'.cell? ⟨gb384, 13, none⟩ = some (.bool a0_13) ∧ w'.cell? ⟨gb384, 14, none⟩ = some (.bool a0_14) ∧ w'.cell? ⟨gb384, 15, none⟩ = some (.bool a0_15) ∧ w'.cell? ⟨gb384, 16, none⟩ = some (.slice A0_16 l0_16.length c0_16) ∧ w'.cell? ⟨gb384, 17, none⟩ = some (.int .i64 a0_17) ∧ w'.cell? ⟨gb384, 18, none⟩ = some (.int .i64 a0_18)) (ds := []) #[false, false, false, false, false, false, false, false, false] (by kernel_rfl) rfl rfl ⟨(blk_cell BK384.out 0).trans rfl, (blk_cell BK384.out 1).trans rfl, (blk_cell BK384.out 2).trans rfl, (blk_cell BK384.out 3).trans rfl, (blk_cell BK384.out 4).trans rfl, (blk_cell BK384.out 5).trans rfl, (blk_cell BK384.out 6).trans rfl, (blk_cell BK384.out 7).trans rfl, (blk_cell BK384.out 8).trans rfl, (blk_cell BK384.out 9).trans rfl, (blk_cell BK384.out 10).trans rfl, (blk_cell BK384.out 11).trans rfl, (blk_cell BK384.out 12).trans rfl, (blk_cell BK384.out 13).trans rfl, (blk_cell BK384.out 14).trans rfl, (blk_cell BK384.out 15).trans rfl, (blk_cell BK384.out 16).trans rfl, (blk_cell BK384.out 17).trans rfl, (blk_cell BK384.out 18).trans rfl⟩ (fun hHeld => ?_); refine with_tabW waveletref29_Quant.tab3 waveletref29_Quant.bits3 (fun HT_ HW_ => ?_)
        generalize wc.drew = w16 at BK384 BK385 HB hHeld ⊢
        refine pure_ (i := 1) (N := some 18) (v := ?_) (a' := ?_) #[false, true, false, false, false, false, false, false, false] rfl rfl (any_of HT_.out (by kernel_rfl)) (fun _ _ _ h => h) (Or.inl ⟨by rfl, ?_⟩) ?_ ?_
        rotate_left
        · intro w'
          go_simp
          with_reducible rfl
        rotate_left
        · simp only [Act.put, List.setIfInBounds_toArray, List.set_cons_zero, List.set_cons_succ, i64_w, i32_w]
          rfl
        refine pure_ (i := 4) (N := some 21) (v := ?_) (a' := ?_) #[false, true, false, false, true, false, false, false, false] rfl rfl (any_of HT_.out (by kernel_rfl)) (fun _ _ _ h => h) (Or.inl ⟨by rfl, ?_⟩) ?_ ?_
        rotate_left
        · intro w'
          go_simp
          with_reducible rfl
        rotate_left
        · simp only [Act.put, List.setIfInBounds_toArray, List.set_cons_zero, List.set_cons_succ, i64_w, i32_w]
          rfl
        refine take_ (i := 2) (N := some 19) (v := ?_) (a' := ?_) #[false, true, true, false, true, false, false, false, false] rfl rfl (take_ofW HT_.out HW_.out (by kernel_rfl)) (fun _ _ _ h => h) (Or.inl ⟨by rfl, ?_⟩) hHeld ?_ ?_
        rotate_left
        · rintro w' ⟨s0, s1, s2, s3, s4, s5, s6, s7, s8, s9, s10, s11, s12, s13, s14, s15, s16, s17, s18⟩
          go_simp
          with_reducible rfl
        rotate_left
        · simp only [Act.put, List.setIfInBounds_toArray, List.set_cons_zero, List.set_cons_succ, i64_w, i32_w]
          rfl
        refine take_ (i := 5) (N := some 22) (v := ?_) (a' := ?_) #[false, true, true, false, true, true, false, false, false] rfl rfl (take_ofW HT_.out HW_.out (by kernel_rfl)) (fun _ _ _ h => h) (Or.inl ⟨by rfl, ?_⟩) hHeld ?_ ?_
        rotate_left
        · rintro w' ⟨s0, s1, s2, s3, s4, s5, s6, s7, s8, s9, s10, s11, s12, s13, s14, s15, s16, s17, s18⟩
          go_simp
          with_reducible rfl
        rotate_left
        · simp only [Act.put, List.setIfInBounds_toArray, List.set_cons_zero, List.set_cons_succ, i64_w, i32_w]
          rfl
        refine pure_ (i := 6) (N := some 23) (v := ?_) (a' := ?_) #[false, true, true, false, true, true, true, false, false] rfl rfl (any_of HT_.out (by kernel_rfl)) (fun _ _ _ h => h) (Or.inl ⟨by rfl, ?_⟩) ?_ ?_
        rotate_left
        · intro w'
          go_simp
          with_reducible rfl
        rotate_left
        · simp only [Act.put, List.setIfInBounds_toArray, List.set_cons_zero, List.set_cons_succ, i64_w, i32_w]
          rfl
        refine one_ (i := 0) (N := some 17) #[true, true, true, false, true, true, true, false, false] rfl rfl (one_of HT_.out (by kernel_rfl)) (by decide) (fun K hK => ?_)
        refine Kd.R_lit_step (Kd.int .u8) _ 5 ?hg (N := 17) ?hd (xs := ([] : List Int)) (inner := []) (ok := fun _ => True) (okp := fun _ => True) ?hr ?hp (fun _ hk => hk) trivial (Below.refl _ _) (Nat.le_refl _) (by simp) ?_; (case hd => rfl); (case hg => rfl); (case hr => first | (go_simp; done) | (go_simp; rfl)); (case hp => exact (Reps.none _ _))
        intro v388 w17 ho18 hb hg_ hnew_
        clear hg_ hnew_
        (first | rw [← Ny387.out] at ho18 | (simp only [Int.reduceToNat] at ho18; rw [← Ny387.out] at ho18))
        have n0_ := Aside0.mk (Kd.R_lower ho18 (below_size (by repeat (first | (with_reducible first | exact HB.out | apply below_alloc | apply pw_below_drewN | apply below_drew1 | refine below_set ?_ GE384.out | refine below_set ?_ GE385.out) | exact HB.out))))
        have n1_ := Aside0.mk (blk_below (g := gb384) (o := .cells #[.int .i64 a0_0, .int .i64 a0_1, .int .i64 a0_2, .int .i64 a0_3, .int .i64 a0_4, .slice A0_5 l0_5.length c0_5, .int .i64 a0_6, .int .i64 a0_7, .bool a0_8, .bool a0_9, .bool a0_10, .bool a0_11, .bool a0_12, .bool a0_13, .bool a0_14, .bool a0_15, .slice A0_16 l0_16.length c0_16, .int .i64 a0_17, .int .i64 a0_18] 55 (0, 0)) (by (with_reducible repeat (first | refine blk_drewN ?_ _ | refine blk_drew ?_ | refine blk_alloc ?_ _)); exact BK384.out) hb)
        have n2_ := Aside0.mk (blk_below (g := gb385) (o := .cells #[.int .i64 0, .slice none 0 0] 26 (0, 0)) (by (with_reducible repeat (first | refine blk_drewN ?_ _ | refine blk_drew ?_ | refine blk_alloc ?_ _)); exact BK385.out) hb)
        have n3_ := Aside0.mk (below_step (by repeat (first | (with_reducible first | exact HB.out | apply below_alloc | apply pw_below_drewN | apply below_drew1 | refine below_set ?_ GE384.out | refine below_set ?_ GE385.out) | exact HB.out)) hb)
        clear BK384
        clear BK385
        clear HB
        have HO389 := n0_
        have BK384 := n1_
        have BK385 := n2_
        have HB := n3_
        clear n0_ n1_ n2_ n3_
        clear hb ho18
        obtain ⟨Ao19, co19, eo19⟩ := Kd.R_slice HO389.out
        (first | subst eo19 | (injection eo19 with f1_ f2_ f3_; have f4_ := f1_.symm; have f5_ := f3_.symm; clear f1_ f2_ f3_; subst f4_; subst f5_))
        refine hK.out _ _ ⟨(blk_cell BK384.out 0).trans rfl, (blk_cell BK384.out 1).trans rfl, (blk_cell BK384.out 2).trans rfl, (blk_cell BK384.out 3).trans rfl, (blk_cell BK384.out 4).trans rfl, (blk_cell BK384.out 5).trans rfl, (blk_cell BK384.out 6).trans rfl, (blk_cell BK384.out 7).trans rfl, (blk_cell BK384.out 8).trans rfl, (blk_cell BK384.out 9).trans rfl, (blk_cell BK384.out 10).trans rfl, (blk_cell BK384.out 11).trans rfl, (blk_cell BK384.out 12).trans rfl, (blk_cell BK384.out 13).trans rfl, (blk_cell BK384.out 14).trans rfl, (blk_cell BK384.out 15).trans rfl, (blk_cell BK384.out 16).trans rfl, (blk_cell BK384.out 17).trans rfl, (blk_cell BK384.out 18).trans rfl⟩ (fun hHeld => ?_)
        clear hK K
        refine norm_ (a' := ?_) ?_ ?_
        rotate_left
        · show Act.put _ (some 17) _ = _
          simp only [Act.put, List.setIfInBounds_toArray, List.set_cons_zero, List.set_cons_succ, i64_w, i32_w]
          rfl
        refine one_ (i := 3) (N := some 20) #[true, true, true, true, true, true, true, false, false] rfl rfl (one_of HT_.out (by kernel_rfl)) (by decide) (fun K hK => ?_)
        refine goes_ Try.func46 (by kernel_rfl) rfl #[.slice Ao19 y387.length co19, .int .i64 a0_17, .int .i64 1] (by rfl) rfl rfl (by (try simp only [List.map_toArray, List.map_cons, List.map_nil]); first | done | rfl | (simp only [List.length_drop, List.length_take]; rfl)) ?_
        with_reducible refine (waveletref29_put.calls kj1 (fun k_ => some k_ = (.slice Ao19 y387.length co19 : Value).ownBlock) (.slice Ao19 y387.length co19) y387 a0_17 1 t390 w _ ?side1 ?side2 A14.out).mono ?_
        (case side1 => repeat (first | (with_reducible first | exact HB.out | apply below_alloc | apply pw_below_drewN | apply below_drew1 | refine below_set ?_ GE384.out | refine below_set ?_ GE385.out) | exact HB.out))
        (case side2 => exact Kd.R_tight rfl HO389.out)
        rintro e w20 ⟨v391, rfl, ho0, hb, hkp⟩
        refine ⟨_, rfl, ?_⟩
        have n0_ := Aside0.mk (blk_kept (by (with_reducible repeat (first | refine blk_drewN ?_ _ | refine blk_drew ?_ | refine blk_alloc ?_ _)); exact BK384.out) hkp (fun hs_ => (fun e_ => (Kd.R_ne HO389.out BK384.out (by decide)) e_) hs_))
        have n1_ := Aside0.mk (blk_kept (by (with_reducible repeat (first | refine blk_drewN ?_ _ | refine blk_drew ?_ | refine blk_alloc ?_ _)); exact BK385.out) hkp (fun hs_ => (fun e_ => (Kd.R_ne HO389.out BK385.out (by decide)) e_) hs_))
        have n2_ := Aside0.mk (Kd.R_mono (ok' := fun k_ => True) ho0 (fun k_ hk_ => trivial))
        have n3_ := Aside0.mk (hb)
        clear BK384
        clear BK385
        clear HB
        clear HO389
        have BK384 := n0_
        have BK385 := n1_
        have HO392 := n2_
        have HB := n3_
        clear n0_ n1_ n2_ n3_
        (try clear hb)
        (try clear hkp)
        (try clear ho0)
        obtain ⟨Ao21, co21, eo21⟩ := Kd.R_slice HO392.out
        (first | subst eo21 | (injection eo21 with f1_ f2_ f3_; have f4_ := f1_.symm; have f5_ := f3_.symm; clear f1_ f2_ f3_; subst f4_; subst f5_))
        refine hK.out _ _ ⟨(blk_cell BK384.out 0).trans rfl, (blk_cell BK384.out 1).trans rfl, (blk_cell BK384.out 2).trans rfl, (blk_cell BK384.out 3).trans rfl, (blk_cell BK384.out 4).trans rfl, (blk_cell BK384.out 5).trans rfl, (blk_cell BK384.out 6).trans rfl, (blk_cell BK384.out 7).trans rfl, (blk_cell BK384.out 8).trans rfl, (blk_cell BK384.out 9).trans rfl, (blk_cell BK384.out 10).trans rfl, (blk_cell BK384.out 11).trans rfl, (blk_cell BK384.out 12).trans rfl, (blk_cell BK384.out 13).trans rfl, (blk_cell BK384.out 14).trans rfl, (blk_cell BK384.out 15).trans rfl, (blk_cell BK384.out 16).trans rfl, (blk_cell BK384.out 17).trans rfl, (blk_cell BK384.out 18).trans rfl⟩ (fun hHeld => ?_)
        clear hK K
        refine norm_ (a' := ?_) ?_ ?_
        rotate_left
        · show Act.put _ (some 20) _ = _
          simp only [Act.put, List.setIfInBounds_toArray, List.set_cons_zero, List.set_cons_succ, i64_w, i32_w]
          rfl
        refine one_ (i := 7) (N := some 24) #[true, true, true, true, true, true, true, true, false] rfl rfl (one_of HT_.out (by kernel_rfl)) (by decide) (fun K hK => ?_)
        refine goes_ Try.func46 (by kernel_rfl) rfl #[.slice Ao21 t390.length co21, .int .i64 (l0_16.length : Int), .int .i64 1] (by rfl) rfl rfl (by (try simp only [List.map_toArray, List.map_cons, List.map_nil]); first | done | rfl | (simp only [List.length_drop, List.length_take]; rfl)) ?_
        with_reducible refine (waveletref29_put.calls kj1 (fun k_ => some k_ = (.slice Ao21 t390.length co21 : Value).ownBlock) (.slice Ao21 t390.length co21) t390 (l0_16.length : Int) 1 t393 w _ ?side1 ?side2 A15.out).mono ?_
        (case side1 => repeat (first | (with_reducible first | exact HB.out | apply below_alloc | apply pw_below_drewN | apply below_drew1 | refine below_set ?_ GE384.out | refine below_set ?_ GE385.out) | exact HB.out))
        (case side2 => exact Kd.R_tight rfl HO392.out)
        rintro e w22 ⟨v394, rfl, ho0, hb, hkp⟩
        refine ⟨_, rfl, ?_⟩
        have n0_ := Aside0.mk (blk_kept (by (with_reducible repeat (first | refine blk_drewN ?_ _ | refine blk_drew ?_ | refine blk_alloc ?_ _)); exact BK384.out) hkp (fun hs_ => (fun e_ => (Kd.R_ne HO392.out BK384.out (by decide)) e_) hs_))
        have n1_ := Aside0.mk (blk_kept (by (with_reducible repeat (first | refine blk_drewN ?_ _ | refine blk_drew ?_ | refine blk_alloc ?_ _)); exact BK385.out) hkp (fun hs_ => (fun e_ => (Kd.R_ne HO392.out BK385.out (by decide)) e_) hs_))
        have n2_ := Aside0.mk (Kd.R_mono (ok' := fun k_ => True) ho0 (fun k_ hk_ => trivial))
        have n3_ := Aside0.mk (hb)
        clear BK384
        clear BK385
        clear HB
        clear HO392
        have BK384 := n0_
        have BK385 := n1_
        have HO395 := n2_
        have HB := n3_
        clear n0_ n1_ n2_ n3_
        (try clear hb)
        (try clear hkp)
        (try clear ho0)
        refine hK.out _ _ ⟨(blk_cell BK384.out 0).trans rfl, (blk_cell BK384.out 1).trans rfl, (blk_cell BK384.out 2).trans rfl, (blk_cell BK384.out 3).trans rfl, (blk_cell BK384.out 4).trans rfl, (blk_cell BK384.out 5).trans rfl, (blk_cell BK384.out 6).trans rfl, (blk_cell BK384.out 7).trans rfl, (blk_cell BK384.out 8).trans rfl, (blk_cell BK384.out 9).trans rfl, (blk_cell BK384.out 10).trans rfl, (blk_cell BK384.out 11).trans rfl, (blk_cell BK384.out 12).trans rfl, (blk_cell BK384.out 13).trans rfl, (blk_cell BK384.out 14).trans rfl, (blk_cell BK384.out 15).trans rfl, (blk_cell BK384.out 16).trans rfl, (blk_cell BK384.out 17).trans rfl, (blk_cell BK384.out 18).trans rfl⟩ (fun hHeld => ?_)
        clear hK K
        refine norm_ (a' := ?_) ?_ ?_
        rotate_left
        · show Act.put _ (some 24) _ = _
          simp only [Act.put, List.setIfInBounds_toArray, List.set_cons_zero, List.set_cons_succ, i64_w, i32_w]
          rfl
        refine pure_ (i := 8) (N := some 4) (v := ?_) (a' := ?_) #[true, true, true, true, true, true, true, true, true] rfl rfl (any_of HT_.out (by kernel_rfl)) (fun _ _ _ h => h) (Or.inl ⟨by rfl, ?_⟩) ?_ ?_
        rotate_left
        · intro w'
          go_simp
          with_reducible rfl
        rotate_left
        · simp only [Act.put, List.setIfInBounds_toArray, List.set_cons_zero, List.set_cons_succ, i64_w, i32_w]
          rfl
        refine done_ (done_of HT_.out (by kernel_rfl)) ?_
        try go_wp2
        go_loopg [4, 5] kj1 (fun kq v4 v5 w' => ∃ (x4_2 : List Int) (x5_2 : Int) (x386000_2 : Int), v5 = .int .i64 x5_2 ∧ Aside0 (waveletref29_Quant.l0 kq x4_2 x5_2 a0_0 a0_1 a0_2 a0_3 a0_4 l0_5 a0_6 a0_7 a0_8 a0_9 a0_10 a0_11 a0_12 a0_13 a0_14 a0_15 l0_16 a0_17 a0_18 = some (r1, r2, r3)) ∧ Aside0 (kq ≤ kj1) ∧ Aside0 (Kd.R (Kd.int .u8) 5 w' w.heap.size (fun _ => True) v4 x4_2) ∧ Aside0 (w'.heap[gb384]? = some (.cells #[.int .i64 a0_0, .int .i64 a0_1, .int .i64 a0_2, .int .i64 a0_3, .int .i64 a0_4, (.slice A0_5 l0_5.length c0_5), .int .i64 a0_6, .int .i64 a0_7, .bool a0_8, .bool a0_9, .bool a0_10, .bool a0_11, .bool a0_12, .bool a0_13, .bool a0_14, .bool a0_15, (.slice A0_16 l0_16.length c0_16), .int .i64 a0_17, .int .i64 a0_18] 55 (0, 0))) ∧ Aside0 (w'.heap[gb385]? = some (.cells #[.int .i64 x386000_2, (.slice none 0 0)] 26 (0, 0))) ∧ Aside0 (Below w.heap.size w w'))
        case atStart => exact ⟨(t393), (0), (0), (by first | rfl | (simp; done) | (simp [*]; done)), H', ⟨Nat.le_refl _⟩, ⟨by (with_reducible repeat (first | apply Kd.R_alloc | apply Kd.R_drewN | apply Kd.R_drew)); exact HO395.out⟩, ⟨by (with_reducible repeat (first | refine blk_drewN ?_ _ | refine blk_drew ?_ | refine blk_alloc ?_ _)); exact BK384.out⟩, ⟨by (with_reducible repeat (first | refine blk_drewN ?_ _ | refine blk_drew ?_ | refine blk_alloc ?_ _)); exact BK385.out⟩, ⟨by repeat (first | (with_reducible first | exact HB.out | apply below_alloc | apply pw_below_drewN | apply below_drew1 | refine below_set ?_ GE384.out | refine below_set ?_ GE385.out) | exact HB.out)⟩⟩
        case round =>
          clear H'
          try clear c1
          try clear c2
          try clear p2
          try clear c4
          try clear c6
          try clear c7
          try clear c9
          try clear c11
          try clear c12
          try clear hcz10_0
          try clear hcz10_1
          try clear hcz10_10
          try clear hcz10_11
          try clear hcz10_12
          try clear hcz10_13
          try clear hcz10_14
          try clear hcz10_15
          try clear hcz10_16
          try clear hcz10_17
          try clear hcz10_18
          try clear hcz10_2
          try clear hcz10_3
          try clear hcz10_4
          try clear hcz10_5
          try clear hcz10_6
          try clear hcz10_7
          try clear hcz10_8
          try clear hcz10_9
          try clear hcz13_0
          try clear hcz13_1
          try clear hcz8_0
          try clear hcz8_1
          try clear hcz8_10
          try clear hcz8_11
          try clear hcz8_12
          try clear hcz8_13
          try clear hcz8_14
          try clear hcz8_15
          try clear hcz8_16
          try clear hcz8_17
          try clear hcz8_18
          try clear hcz8_2
          try clear hcz8_3
          try clear hcz8_4
          try clear hcz8_5
          try clear hcz8_6
          try clear hcz8_7
          try clear hcz8_8
          try clear hcz8_9
          try clear hfz10_0
          try clear hfz10_1
          try clear hfz10_10
          try clear hfz10_11
          try clear hfz10_12
          try clear hfz10_13
          try clear hfz10_14
          try clear hfz10_15
          try clear hfz10_16
          try clear hfz10_17
          try clear hfz10_18
          try clear hfz10_2
          try clear hfz10_3
          try clear hfz10_4
          try clear hfz10_5
          try clear hfz10_6
          try clear hfz10_7
          try clear hfz10_8
          try clear hfz10_9
          try clear hfz13_0
          try clear hfz13_1
          try clear hfz8_0
          try clear hfz8_1
          try clear hfz8_10
          try clear hfz8_11
          try clear hfz8_12
          try clear hfz8_13
          try clear hfz8_14
          try clear hfz8_15
          try clear hfz8_16
          try clear hfz8_17
          try clear hfz8_18
          try clear hfz8_2
          try clear hfz8_3
          try clear hfz8_4
          try clear hfz8_5
          try clear hfz8_6
          try clear hfz8_7
          try clear hfz8_8
          try clear hfz8_9
          try clear p2
          obtain ⟨x4_2, x5_2, x386000_2, rfl, HA, HK2, HO_4, BK384, BK385, HB⟩ := hrel
          cases gk with
          | zero => exact absurd HA.out (by simp [waveletref29_Quant.l0])
          | succ k2 =>
            have H := HA.out
            clear HA
            simp only [waveletref29_Quant.l0] at H
            by_cases c23 : x5_2 < (l0_16.length : Int)
            · rw [if_pos c23] at H
              have c23b0 : decide (x5_2 < (l0_16.length : Int)) = true := decide_eq_true c23
              clear c23
              by_cases c24 : 0 ≤ x5_2
              · rw [if_pos c24] at H
                have c24b0 : decide (0 ≤ x5_2) = true := decide_eq_true c24
                clear c24
                replace H := Option.bind_eq_some_iff.mp H
                obtain ⟨t397, A250, H⟩ := H
                replace H : (if t397 = true then ((waveletref29_put.f k2 x4_2 (wrap64 ((rd l0_16 x5_2) - 1)) 2).bind fun t399 => (waveletref29_Quant.l0 k2 t399 (wrap64 (x5_2 + 1)) a0_0 a0_1 a0_2 a0_3 a0_4 l0_5 a0_6 a0_7 a0_8 a0_9 a0_10 a0_11 a0_12 a0_13 a0_14 a0_15 l0_16 a0_17 a0_18)) else (some (0, ([] : List Int), 2))) = some (r1, r2, r3) := H
                have A25 := Aside0.mk A250
                clear A250
                by_cases c26 : t397 = true
                · subst c26
                  have H1 : ((waveletref29_put.f k2 x4_2 (wrap64 ((rd l0_16 x5_2) - 1)) 2).bind fun t399 => (waveletref29_Quant.l0 k2 t399 (wrap64 (x5_2 + 1)) a0_0 a0_1 a0_2 a0_3 a0_4 l0_5 a0_6 a0_7 a0_8 a0_9 a0_10 a0_11 a0_12 a0_13 a0_14 a0_15 l0_16 a0_17 a0_18)) = some (r1, r2, r3) := by rw [if_pos rfl] at H; exact H
                  clear H
                  have H := H1
                  clear H1
                  replace H := Option.bind_eq_some_iff.mp H
                  obtain ⟨t399, A270, H⟩ := H
                  replace H : (waveletref29_Quant.l0 k2 t399 (wrap64 (x5_2 + 1)) a0_0 a0_1 a0_2 a0_3 a0_4 l0_5 a0_6 a0_7 a0_8 a0_9 a0_10 a0_11 a0_12 a0_13 a0_14 a0_15 l0_16 a0_17 a0_18) = some (r1, r2, r3) := H
                  have A27 := Aside0.mk A270
                  clear A270
                  have H' := Aside0.mk H
                  clear H
                  have hnb28 := NB384_385.out
                  have hnc28 := NB385_384.out
                  have hcz29_0 : wr.cell? ⟨gb384, 0, none⟩ = some (.int .i64 a0_0) := (blk_cell BK384.out 0).trans rfl
                  have hcz29_1 : wr.cell? ⟨gb384, 1, none⟩ = some (.int .i64 a0_1) := (blk_cell BK384.out 1).trans rfl
                  have hcz29_2 : wr.cell? ⟨gb384, 2, none⟩ = some (.int .i64 a0_2) := (blk_cell BK384.out 2).trans rfl
                  have hcz29_3 : wr.cell? ⟨gb384, 3, none⟩ = some (.int .i64 a0_3) := (blk_cell BK384.out 3).trans rfl
                  have hcz29_4 : wr.cell? ⟨gb384, 4, none⟩ = some (.int .i64 a0_4) := (blk_cell BK384.out 4).trans rfl
                  have hcz29_5 : wr.cell? ⟨gb384, 5, none⟩ = some (.slice A0_5 l0_5.length c0_5) := (blk_cell BK384.out 5).trans rfl
                  have hcz29_6 : wr.cell? ⟨gb384, 6, none⟩ = some (.int .i64 a0_6) := (blk_cell BK384.out 6).trans rfl
                  have hcz29_7 : wr.cell? ⟨gb384, 7, none⟩ = some (.int .i64 a0_7) := (blk_cell BK384.out 7).trans rfl
                  have hcz29_8 : wr.cell? ⟨gb384, 8, none⟩ = some (.bool a0_8) := (blk_cell BK384.out 8).trans rfl
                  have hcz29_9 : wr.cell? ⟨gb384, 9, none⟩ = some (.bool a0_9) := (blk_cell BK384.out 9).trans rfl
                  have hcz29_10 : wr.cell? ⟨gb384, 10, none⟩ = some (.bool a0_10) := (blk_cell BK384.out 10).trans rfl
                  have hcz29_11 : wr.cell? ⟨gb384, 11, none⟩ = some (.bool a0_11) := (blk_cell BK384.out 11).trans rfl
                  have hcz29_12 : wr.cell? ⟨gb384, 12, none⟩ = some (.bool a0_12) := (blk_cell BK384.out 12).trans rfl
                  have hcz29_13 : wr.cell? ⟨gb384, 13, none⟩ = some (.bool a0_13) := (blk_cell BK384.out 13).trans rfl
                  have hcz29_14 : wr.cell? ⟨gb384, 14, none⟩ = some (.bool a0_14) := (blk_cell BK384.out 14).trans rfl
                  have hcz29_15 : wr.cell? ⟨gb384, 15, none⟩ = some (.bool a0_15) := (blk_cell BK384.out 15).trans rfl
                  have hcz29_16 : wr.cell? ⟨gb384, 16, none⟩ = some (.slice A0_16 l0_16.length c0_16) := (blk_cell BK384.out 16).trans rfl
                  have hcz29_17 : wr.cell? ⟨gb384, 17, none⟩ = some (.int .i64 a0_17) := (blk_cell BK384.out 17).trans rfl
                  have hcz29_18 : wr.cell? ⟨gb384, 18, none⟩ = some (.int .i64 a0_18) := (blk_cell BK384.out 18).trans rfl
                  have hfz29_0 := blk_frozen BK384.out 0
                  have hfz29_1 := blk_frozen BK384.out 1
                  have hfz29_2 := blk_frozen BK384.out 2
                  have hfz29_3 := blk_frozen BK384.out 3
                  have hfz29_4 := blk_frozen BK384.out 4
                  have hfz29_5 := blk_frozen BK384.out 5
                  have hfz29_6 := blk_frozen BK384.out 6
                  have hfz29_7 := blk_frozen BK384.out 7
                  have hfz29_8 := blk_frozen BK384.out 8
                  have hfz29_9 := blk_frozen BK384.out 9
                  have hfz29_10 := blk_frozen BK384.out 10
                  have hfz29_11 := blk_frozen BK384.out 11
                  have hfz29_12 := blk_frozen BK384.out 12
                  have hfz29_13 := blk_frozen BK384.out 13
                  have hfz29_14 := blk_frozen BK384.out 14
                  have hfz29_15 := blk_frozen BK384.out 15
                  have hfz29_16 := blk_frozen BK384.out 16
                  have hfz29_17 := blk_frozen BK384.out 17
                  have hfz29_18 := blk_frozen BK384.out 18
                  have p396 : 0 ≤ (x5_2 : Int) := of_decide_eq_true (by first | (with_reducible assumption) | assumption)
                  have q396 : x5_2 < (l0_16.length : Int) := of_decide_eq_true (by first | (with_reducible assumption) | assumption)
                  obtain ⟨ad396, e396, hx396_0⟩ := Kd.at_int HR0_16.out x5_2 p396 q396
                  cases e396
                  replace hx396_0 := (HB.out.cell (World.block_lt_of_cell? w _ hx396_0)).trans hx396_0
                  replace p396 := eq_true p396
                  replace q396 := eq_true q396
                  go_wp2_with (first | ((with_reducible refine gate_callee (f := 45) rfl ?_); refine goesL_ (some 37) rfl rfl Try.func45 (by kernel_rfl) rfl #[.int .i64 (rd l0_16 x5_2), .int .i64 1, .int .i64 65536] rfl (by (try simp only [List.map_toArray, List.map_cons, List.map_nil]); first | done | rfl | (simp only [List.length_drop, List.length_take]; rfl)) ?_; (with_reducible refine (waveletref29_in.calls (rd l0_16 x5_2) 1 65536 true _ A25.out).mono ?_); rintro e w' ⟨rfl, ⟨nd, rfl⟩⟩; refine ⟨_, rfl, ?_⟩; have p398 : 0 ≤ (x5_2 : Int) := of_decide_eq_true (by first | (with_reducible assumption) | assumption); have q398 : x5_2 < (l0_16.length : Int) := of_decide_eq_true (by first | (with_reducible assumption) | assumption); obtain ⟨ad398, e398, hx398_0⟩ := Kd.at_int HR0_16.out x5_2 p398 q398; obtain rfl : ad396 = ad398 := (by injection e398); replace hx398_0 := (HB.out.cell (World.block_lt_of_cell? w _ hx398_0)).trans hx398_0; replace p398 := eq_true p398; replace q398 := eq_true q398; obtain ⟨Ao30, co30, eo30⟩ := Kd.R_slice HO_4.out; subst eo30) | ((with_reducible refine gate_callee (f := 46) rfl ?_); refine goesL_ (some 47) rfl rfl Try.func46 (by kernel_rfl) rfl #[.slice Ao30 x4_2.length co30, .int .i64 (wrap64 ((rd l0_16 x5_2) - 1)), .int .i64 2] rfl (by (try simp only [List.map_toArray, List.map_cons, List.map_nil]); first | done | rfl | (simp only [List.length_drop, List.length_take]; rfl)) ?_; (with_reducible refine (waveletref29_put.calls k2 (fun k_ => some k_ = (.slice Ao30 x4_2.length co30 : Value).ownBlock) (.slice Ao30 x4_2.length co30) x4_2 (wrap64 ((rd l0_16 x5_2) - 1)) 2 t399 w _ ?side1 ?side2 A27.out).mono ?_); (case side1 => repeat (first | (with_reducible first | exact HB.out | apply below_alloc | apply pw_below_drewN | apply below_drew1 | refine below_set ?_ GE384.out | refine below_set ?_ GE385.out) | exact HB.out)); (case side2 => exact Kd.R_tight rfl HO_4.out); rintro e w31 ⟨v400, rfl, ho0, hb, hkp⟩; refine ⟨_, rfl, ?_⟩; have n0_ := Aside0.mk (blk_kept (by (with_reducible repeat (first | refine blk_drewN ?_ _ | refine blk_drew ?_ | refine blk_alloc ?_ _)); exact BK384.out) hkp (fun hs_ => (fun e_ => (Kd.R_ne HO_4.out BK384.out (by decide)) e_) hs_)); have n1_ := Aside0.mk (blk_kept (by (with_reducible repeat (first | refine blk_drewN ?_ _ | refine blk_drew ?_ | refine blk_alloc ?_ _)); exact BK385.out) hkp (fun hs_ => (fun e_ => (Kd.R_ne HO_4.out BK385.out (by decide)) e_) hs_)); have n2_ := Aside0.mk (Kd.R_mono (ok' := fun k_ => True) ho0 (fun k_ hk_ => trivial)); have n3_ := Aside0.mk (hb); clear BK384; clear BK385; clear HB; clear HO_4; have BK384 := n0_; have BK385 := n1_; have HO401 := n2_; have HB := n3_; clear n0_ n1_ n2_ n3_; (try clear hb); (try clear hkp); (try clear ho0)))
                  go_roundg k2
                  case measure => have := HJ1.out; have := HK2.out; omega
                  case rel => exact ⟨(t399), (wrap64 (x5_2 + 1)), (x386000_2), (by first | rfl | (simp; done) | (simp [*]; done)), H', ⟨by have := HJ1.out; have := HK2.out; omega⟩, ⟨by (with_reducible repeat (first | apply Kd.R_alloc | apply Kd.R_drewN | apply Kd.R_drew)); exact HO401.out⟩, ⟨by (with_reducible repeat (first | refine blk_drewN ?_ _ | refine blk_drew ?_ | refine blk_alloc ?_ _)); exact BK384.out⟩, ⟨by (with_reducible repeat (first | refine blk_drewN ?_ _ | refine blk_drew ?_ | refine blk_alloc ?_ _)); exact BK385.out⟩, ⟨by repeat (first | (with_reducible first | exact HB.out | apply below_alloc | apply pw_below_drewN | apply below_drew1 | refine below_set ?_ GE384.out | refine below_set ?_ GE385.out) | exact HB.out)⟩⟩
                · replace c26 := Bool.eq_false_iff.mpr c26
                  subst c26
                  have H1 : (some (0, ([] : List Int), 2)) = some (r1, r2, r3) := by rw [if_neg (show ¬ (false = true) by decide)] at H; exact H
                  clear H
                  have H := H1
                  clear H1
                  simp only [Option.some.injEq, Prod.mk.injEq] at H
                  obtain ⟨rfl, rfl, rfl⟩ := H
                  have hnb32 := NB384_385.out
                  have hnc32 := NB385_384.out
                  have hcz33_0 : wr.cell? ⟨gb384, 0, none⟩ = some (.int .i64 a0_0) := (blk_cell BK384.out 0).trans rfl
                  have hcz33_1 : wr.cell? ⟨gb384, 1, none⟩ = some (.int .i64 a0_1) := (blk_cell BK384.out 1).trans rfl
                  have hcz33_2 : wr.cell? ⟨gb384, 2, none⟩ = some (.int .i64 a0_2) := (blk_cell BK384.out 2).trans rfl
                  have hcz33_3 : wr.cell? ⟨gb384, 3, none⟩ = some (.int .i64 a0_3) := (blk_cell BK384.out 3).trans rfl
                  have hcz33_4 : wr.cell? ⟨gb384, 4, none⟩ = some (.int .i64 a0_4) := (blk_cell BK384.out 4).trans rfl
                  have hcz33_5 : wr.cell? ⟨gb384, 5, none⟩ = some (.slice A0_5 l0_5.length c0_5) := (blk_cell BK384.out 5).trans rfl
                  have hcz33_6 : wr.cell? ⟨gb384, 6, none⟩ = some (.int .i64 a0_6) := (blk_cell BK384.out 6).trans rfl
                  have hcz33_7 : wr.cell? ⟨gb384, 7, none⟩ = some (.int .i64 a0_7) := (blk_cell BK384.out 7).trans rfl
                  have hcz33_8 : wr.cell? ⟨gb384, 8, none⟩ = some (.bool a0_8) := (blk_cell BK384.out 8).trans rfl
                  have hcz33_9 : wr.cell? ⟨gb384, 9, none⟩ = some (.bool a0_9) := (blk_cell BK384.out 9).trans rfl
                  have hcz33_10 : wr.cell? ⟨gb384, 10, none⟩ = some (.bool a0_10) := (blk_cell BK384.out 10).trans rfl
                  have hcz33_11 : wr.cell? ⟨gb384, 11, none⟩ = some (.bool a0_11) := (blk_cell BK384.out 11).trans rfl
                  have hcz33_12 : wr.cell? ⟨gb384, 12, none⟩ = some (.bool a0_12) := (blk_cell BK384.out 12).trans rfl
                  have hcz33_13 : wr.cell? ⟨gb384, 13, none⟩ = some (.bool a0_13) := (blk_cell BK384.out 13).trans rfl
                  have hcz33_14 : wr.cell? ⟨gb384, 14, none⟩ = some (.bool a0_14) := (blk_cell BK384.out 14).trans rfl
                  have hcz33_15 : wr.cell? ⟨gb384, 15, none⟩ = some (.bool a0_15) := (blk_cell BK384.out 15).trans rfl
                  have hcz33_16 : wr.cell? ⟨gb384, 16, none⟩ = some (.slice A0_16 l0_16.length c0_16) := (blk_cell BK384.out 16).trans rfl
                  have hcz33_17 : wr.cell? ⟨gb384, 17, none⟩ = some (.int .i64 a0_17) := (blk_cell BK384.out 17).trans rfl
                  have hcz33_18 : wr.cell? ⟨gb384, 18, none⟩ = some (.int .i64 a0_18) := (blk_cell BK384.out 18).trans rfl
                  have hfz33_0 := blk_frozen BK384.out 0
                  have hfz33_1 := blk_frozen BK384.out 1
                  have hfz33_2 := blk_frozen BK384.out 2
                  have hfz33_3 := blk_frozen BK384.out 3
                  have hfz33_4 := blk_frozen BK384.out 4
                  have hfz33_5 := blk_frozen BK384.out 5
                  have hfz33_6 := blk_frozen BK384.out 6
                  have hfz33_7 := blk_frozen BK384.out 7
                  have hfz33_8 := blk_frozen BK384.out 8
                  have hfz33_9 := blk_frozen BK384.out 9
                  have hfz33_10 := blk_frozen BK384.out 10
                  have hfz33_11 := blk_frozen BK384.out 11
                  have hfz33_12 := blk_frozen BK384.out 12
                  have hfz33_13 := blk_frozen BK384.out 13
                  have hfz33_14 := blk_frozen BK384.out 14
                  have hfz33_15 := blk_frozen BK384.out 15
                  have hfz33_16 := blk_frozen BK384.out 16
                  have hfz33_17 := blk_frozen BK384.out 17
                  have hfz33_18 := blk_frozen BK384.out 18
                  have p396 : 0 ≤ (x5_2 : Int) := of_decide_eq_true (by first | (with_reducible assumption) | assumption)
                  have q396 : x5_2 < (l0_16.length : Int) := of_decide_eq_true (by first | (with_reducible assumption) | assumption)
                  obtain ⟨ad396, e396, hx396_0⟩ := Kd.at_int HR0_16.out x5_2 p396 q396
                  cases e396
                  replace hx396_0 := (HB.out.cell (World.block_lt_of_cell? w _ hx396_0)).trans hx396_0
                  replace p396 := eq_true p396
                  replace q396 := eq_true q396
                  go_wp2_with (first | ((with_reducible refine gate_callee (f := 45) rfl ?_); refine goesL_ (some 37) rfl rfl Try.func45 (by kernel_rfl) rfl #[.int .i64 (rd l0_16 x5_2), .int .i64 1, .int .i64 65536] rfl (by (try simp only [List.map_toArray, List.map_cons, List.map_nil]); first | done | rfl | (simp only [List.length_drop, List.length_take]; rfl)) ?_; (with_reducible refine (waveletref29_in.calls (rd l0_16 x5_2) 1 65536 false _ A25.out).mono ?_); rintro e w' ⟨rfl, ⟨nd, rfl⟩⟩; refine ⟨_, rfl, ?_⟩; (try (rw [drewN_self wr]; generalize hq_ : World.drewN wr _ = wr; have n0_ : Aside0 (Kd.R (Kd.int .u8) 5 wr w.heap.size (fun _ => True) u4 x4_2) := ⟨by rw [← hq_]; exact (by (with_reducible repeat (first | apply Kd.R_alloc | apply Kd.R_drewN | apply Kd.R_drew)); exact HO_4.out)⟩; have n1_ : Aside0 (wr.heap[gb384]? = some (.cells #[.int .i64 a0_0, .int .i64 a0_1, .int .i64 a0_2, .int .i64 a0_3, .int .i64 a0_4, .slice A0_5 l0_5.length c0_5, .int .i64 a0_6, .int .i64 a0_7, .bool a0_8, .bool a0_9, .bool a0_10, .bool a0_11, .bool a0_12, .bool a0_13, .bool a0_14, .bool a0_15, .slice (some ad396) l0_16.length c0_16, .int .i64 a0_17, .int .i64 a0_18] 55 (0, 0))) := ⟨by rw [← hq_]; exact (by (with_reducible repeat (first | refine blk_drewN ?_ _ | refine blk_drew ?_ | refine blk_alloc ?_ _)); exact BK384.out)⟩; have n2_ : Aside0 (wr.heap[gb385]? = some (.cells #[.int .i64 x386000_2, .slice none 0 0] 26 (0, 0))) := ⟨by rw [← hq_]; exact (by (with_reducible repeat (first | refine blk_drewN ?_ _ | refine blk_drew ?_ | refine blk_alloc ?_ _)); exact BK385.out)⟩; have n3_ : Aside0 (Below w.heap.size w wr) := ⟨by rw [← hq_]; exact (by repeat (first | (with_reducible first | exact HB.out | apply below_alloc | apply pw_below_drewN | apply below_drew1 | refine below_set ?_ GE384.out | refine below_set ?_ GE385.out) | exact HB.out))⟩; clear HO_4 BK384 BK385 HB hq_; have HO_4 := n0_; have BK384 := n1_; have BK385 := n2_; have HB := n3_; clear n0_ n1_ n2_ n3_)); have hcz34_0 : wr.cell? ⟨gb385, 0, none⟩ = some (.int .i64 x386000_2) := (blk_cell BK385.out 0).trans rfl; have hcz34_1 : wr.cell? ⟨gb385, 1, none⟩ = some (.slice none 0 0) := (blk_cell BK385.out 1).trans rfl; have hfz34_0 := blk_frozen BK385.out 0; have hfz34_1 := blk_frozen BK385.out 1))
                  refine bodyPost_ret (results_ct rfl _ _ gb385 26 #[.int .i64 0, .slice none 0 0] (0, 0) _ rfl (by (with_reducible repeat (first | refine blk_drewN ?_ _ | refine blk_drew ?_ | refine blk_alloc ?_ _)); refine blk_put (cs := #[.int .i64 0, .slice none 0 0]) ?_ 1 _ rfl; (with_reducible repeat (first | refine blk_drewN ?_ _ | refine blk_drew ?_ | refine blk_alloc ?_ _)); refine blk_put (cs := #[.int .i64 x386000_2, .slice none 0 0]) ?_ 0 _ rfl; (with_reducible repeat (first | refine blk_drewN ?_ _ | refine blk_drew ?_ | refine blk_alloc ?_ _)); exact BK385.out) Try.underlying26 rfl (by kernel_rfl)) rfl ?_
                  exact ⟨_, by first | rfl | (simp [errW_none, errW_some] <;> rfl) | (simp [*, errW_none, errW_some] <;> rfl), by first | exact Kd.R_nil _ _ _ _ _ | exact Kd.N_nil _ _ _ _ _ | exact Kd.V_nil _ _ _ _ _ | exact Kd.Q_nil _ _ _ _ _ | exact Kd.S_nil _ _ _ _ _, by repeat (first | (with_reducible first | exact HB.out | apply below_alloc | apply pw_below_drewN | apply below_drew1 | refine below_set ?_ GE384.out | refine below_set ?_ GE385.out) | exact HB.out)⟩
              · rw [if_neg c24] at H
                exact absurd H (by simp)
            · rw [if_neg c23] at H
              have c23b0 : decide (x5_2 < (l0_16.length : Int)) = false := decide_eq_false c23
              clear c23
              simp only [Option.some.injEq, Prod.mk.injEq] at H
              obtain ⟨rfl, rfl, rfl⟩ := H
              have hnb35 := NB384_385.out
              have hnc35 := NB385_384.out
              have hcz36_0 : wr.cell? ⟨gb384, 0, none⟩ = some (.int .i64 a0_0) := (blk_cell BK384.out 0).trans rfl
              have hcz36_1 : wr.cell? ⟨gb384, 1, none⟩ = some (.int .i64 a0_1) := (blk_cell BK384.out 1).trans rfl
              have hcz36_2 : wr.cell? ⟨gb384, 2, none⟩ = some (.int .i64 a0_2) := (blk_cell BK384.out 2).trans rfl
              have hcz36_3 : wr.cell? ⟨gb384, 3, none⟩ = some (.int .i64 a0_3) := (blk_cell BK384.out 3).trans rfl
              have hcz36_4 : wr.cell? ⟨gb384, 4, none⟩ = some (.int .i64 a0_4) := (blk_cell BK384.out 4).trans rfl
              have hcz36_5 : wr.cell? ⟨gb384, 5, none⟩ = some (.slice A0_5 l0_5.length c0_5) := (blk_cell BK384.out 5).trans rfl
              have hcz36_6 : wr.cell? ⟨gb384, 6, none⟩ = some (.int .i64 a0_6) := (blk_cell BK384.out 6).trans rfl
              have hcz36_7 : wr.cell? ⟨gb384, 7, none⟩ = some (.int .i64 a0_7) := (blk_cell BK384.out 7).trans rfl
              have hcz36_8 : wr.cell? ⟨gb384, 8, none⟩ = some (.bool a0_8) := (blk_cell BK384.out 8).trans rfl
              have hcz36_9 : wr.cell? ⟨gb384, 9, none⟩ = some (.bool a0_9) := (blk_cell BK384.out 9).trans rfl
              have hcz36_10 : wr.cell? ⟨gb384, 10, none⟩ = some (.bool a0_10) := (blk_cell BK384.out 10).trans rfl
              have hcz36_11 : wr.cell? ⟨gb384, 11, none⟩ = some (.bool a0_11) := (blk_cell BK384.out 11).trans rfl
              have hcz36_12 : wr.cell? ⟨gb384, 12, none⟩ = some (.bool a0_12) := (blk_cell BK384.out 12).trans rfl
              have hcz36_13 : wr.cell? ⟨gb384, 13, none⟩ = some (.bool a0_13) := (blk_cell BK384.out 13).trans rfl
              have hcz36_14 : wr.cell? ⟨gb384, 14, none⟩ = some (.bool a0_14) := (blk_cell BK384.out 14).trans rfl
              have hcz36_15 : wr.cell? ⟨gb384, 15, none⟩ = some (.bool a0_15) := (blk_cell BK384.out 15).trans rfl
              have hcz36_16 : wr.cell? ⟨gb384, 16, none⟩ = some (.slice A0_16 l0_16.length c0_16) := (blk_cell BK384.out 16).trans rfl
              have hcz36_17 : wr.cell? ⟨gb384, 17, none⟩ = some (.int .i64 a0_17) := (blk_cell BK384.out 17).trans rfl
              have hcz36_18 : wr.cell? ⟨gb384, 18, none⟩ = some (.int .i64 a0_18) := (blk_cell BK384.out 18).trans rfl
              have hfz36_0 := blk_frozen BK384.out 0
              have hfz36_1 := blk_frozen BK384.out 1
              have hfz36_2 := blk_frozen BK384.out 2
              have hfz36_3 := blk_frozen BK384.out 3
              have hfz36_4 := blk_frozen BK384.out 4
              have hfz36_5 := blk_frozen BK384.out 5
              have hfz36_6 := blk_frozen BK384.out 6
              have hfz36_7 := blk_frozen BK384.out 7
              have hfz36_8 := blk_frozen BK384.out 8
              have hfz36_9 := blk_frozen BK384.out 9
              have hfz36_10 := blk_frozen BK384.out 10
              have hfz36_11 := blk_frozen BK384.out 11
              have hfz36_12 := blk_frozen BK384.out 12
              have hfz36_13 := blk_frozen BK384.out 13
              have hfz36_14 := blk_frozen BK384.out 14
              have hfz36_15 := blk_frozen BK384.out 15
              have hfz36_16 := blk_frozen BK384.out 16
              have hfz36_17 := blk_frozen BK384.out 17
              have hfz36_18 := blk_frozen BK384.out 18
              obtain ⟨Ao37, co37, eo37⟩ := Kd.R_slice HO_4.out
              subst eo37
              have hcz38_0 : wr.cell? ⟨gb385, 0, none⟩ = some (.int .i64 x386000_2) := (blk_cell BK385.out 0).trans rfl
              have hcz38_1 : wr.cell? ⟨gb385, 1, none⟩ = some (.slice none 0 0) := (blk_cell BK385.out 1).trans rfl
              have hfz38_0 := blk_frozen BK385.out 0
              have hfz38_1 := blk_frozen BK385.out 1
              go_wp2
              refine bodyPost_ret (results_ct rfl _ _ gb385 26 #[.int .i64 65443, .slice Ao37 x4_2.length co37] (0, 0) _ rfl (by (with_reducible repeat (first | refine blk_drewN ?_ _ | refine blk_drew ?_ | refine blk_alloc ?_ _)); refine blk_put (cs := #[.int .i64 65443, .slice none 0 0]) ?_ 1 _ rfl; (with_reducible repeat (first | refine blk_drewN ?_ _ | refine blk_drew ?_ | refine blk_alloc ?_ _)); refine blk_put (cs := #[.int .i64 x386000_2, .slice none 0 0]) ?_ 0 _ rfl; (with_reducible repeat (first | refine blk_drewN ?_ _ | refine blk_drew ?_ | refine blk_alloc ?_ _)); exact BK385.out) Try.underlying26 rfl (by kernel_rfl)) rfl ?_
              exact ⟨_, by first | rfl | (simp [errW_none, errW_some] <;> rfl) | (simp [*, errW_none, errW_some] <;> rfl), by (with_reducible repeat (first | apply Kd.R_alloc | apply Kd.R_drewN | apply Kd.R_drew)); exact Kd.R_mono (Kd.R_far (p := ⟨gb385, 1, none⟩) (Kd.R_far (p := ⟨gb385, 0, none⟩) (Kd.R_types HO_4.out BK385.out (by decide)) (fun _ hk => hk.2) (.int .i64 65443)) (fun _ hk => hk.2) (.slice Ao37 x4_2.length co37)) (fun _ hk => trivial), by repeat (first | (with_reducible first | exact HB.out | apply below_alloc | apply pw_below_drewN | apply below_drew1 | refine below_set ?_ GE384.out | refine below_set ?_ GE385.out) | exact HB.out)⟩

end Go.Proofs.Ytihfopblmjgfaaa.Q

/- A number read, or the failure; a call that may panic, in a drawn region. -/
namespace Go.Proofs.Ytihfopblmjgfaaa.Q
open Go.RowKit Go.Proofs.YtihfopblmjgfaaaW.PrintWords Go.Proofs.YtihfopblmjgfaaaW.PrintLast Go.Proofs.YtihfopblmjgfaaaW.PrintMore
set_option linter.unusedVariables false
set_option linter.unusedSimpArgs false
/-- A number is read, or the reading fails. -/
def rdn {ρ : Type} (k : Nat) (l : List Int) (p n : Int) (bad : Int → ρ) (f : Int → Option ρ) : Option ρ := (marker_ReadUint.f k l p n).bind fun q => if q.2 = 0 then f q.1 else some (bad q.2)
theorem rdn_mono {ρ : Type} (k : Nat) (l : List Int) (p n : Int) (bad : Int → ρ) {f g : Int → Option ρ} (h : ∀ x, LeO (f x) (g x)) : LeO (rdn k l p n bad f) (rdn (k + 1) l p n bad g) :=
  LeO.bind (marker_ReadUint.mono _ _ _ _) (fun q => LeO.ite (h q.1) (LeO.refl _))
/-- A call that may panic. -/
theorem goesP_ {P : Program} {ops : Array Oper} {Q : Exit → Act → World → Prop} {oi : Oper} {N : Option Tmp} {a : Act} {w : World} {K : Act → World → Prop} {f : FuncId} {fn : Func} {ars : Array Operand} {ts : Array TypeId} (hf : P.funcs[f]? = some fn) (hname : (fn.name == "runtime.NumGoroutine") = false) (hb : fn.body.isSome = true) (args : Array Value)
    (hw : Region.wanted oi (yielded ops a.tmps) = true) (hN : oi.dst = N) (hop : oi.op = .call { callee := .value (.func f), args := ars, argTypes := ts }) (hargs : ars.map a.eval = args)
    (h : Calls P f args w fun e w' => (∃ v, e = .returned v ∧ K (a.put N v) w') ∨ ∃ c, e = .panicked c ∧ Q (.panic c) a w') : if Region.wanted oi (yielded ops a.tmps) = true then Oper.wp P oi a w K Q else K (a.put N undef) w := by
  have he := enters_ hf hname hb args w
  have hrun : (execOp a.eval oi).run P w = .ok (.enter f args) w := by
    unfold execOp
    simp [hop, resolve, Deferred.ofValue, invoke, Act.eval, hargs, he]
  rw [if_pos hw]
  subst hN
  unfold Oper.wp
  rw [hrun, Oper.upon_enter]
  refine h.mono fun e w'' hh => ?_
  rcases hh with ⟨v, rfl, hk⟩ | ⟨c, rfl, hq⟩
  · exact hk
  · exact hq
end Go.Proofs.Ytihfopblmjgfaaa.Q

/- slices.Clone, at three element types; params.Clone and the reference's Clone. Printed by wip/tools/genClone.py of this session. -/
namespace Go.Proofs.Ytihfopblmjgfaaa.Q
open Go.RowKit Go.Proofs.YtihfopblmjgfaaaW.PrintWords Go.Proofs.YtihfopblmjgfaaaW.PrintLast Go.Proofs.YtihfopblmjgfaaaW.PrintMore
set_option linter.unusedVariables false
set_option linter.unusedSimpArgs false

set_option maxHeartbeats 4000000 in
set_option maxRecDepth 100000 in
theorem slices_Clone66.calls (A : Option Addr) (c : Nat) (xs : List Int) (w : World) (hr : Kd.C (Kd.int .i64) w A xs.length xs) (hc : xs.length ≤ c) (hl : xs.length * 8 ≤ 140737488355328) :
    Calls Try.prog 66 #[.slice A xs.length c] w fun e w' => ∃ v, e = .returned v ∧ Kd.R (Kd.int .i64) 3 w' w.heap.size (fun _ => True) v xs ∧ Below w.heap.size w w' := by
  have HR := Aside0.mk hr
  have HL := Aside0.mk hl
  cases A with
  | none =>
    have h0 : xs.length = 0 := by
      rcases Nat.eq_zero_or_pos xs.length with h | h
      · exact h
      · obtain ⟨ad, e, _⟩ := hr.2.2 h
        cases e
    obtain rfl := List.eq_nil_of_length_eq_zero h0
    clear hr hl h0
    have heq : ∀ W : World, (binOp BinOp.eql 39 (.slice none 0 c) (.slice none 0 0)).run Try.prog W = .ok (.bool true) W := fun _ => by kernel_rfl
    go_enter Try.func66, Try.ntmps66
    go_wp2
    go_ret
    exact ⟨_, rfl, Kd.R_nil (Kd.int .i64) 3 _ _ _, Below.refl _ _⟩
  | some a =>
    clear hr hl
    have heq : ∀ W : World, (binOp BinOp.eql 39 (.slice (some a) xs.length c) (.slice none 0 0)).run Try.prog W = .ok (.bool false) W := fun _ => by kernel_rfl
    go_enter Try.func66, Try.ntmps66
    go_wp2_with (first | ((with_reducible refine gate_dst (N := 5) rfl ?_); refine Kd.R_lit (Kd.int .i64) _ 3 ?hg (N := 5) ?hd (xs := ([] : List Int)) (inner := []) (ok := fun _ => True) (okp := fun _ => True) ?hr ?hp (fun _ hk => hk) trivial (Below.refl _ _) (Nat.le_refl _) (by simp) ?_; (case hd => rfl); (case hg => rfl); (case hr => first | (go_simp; done) | (go_simp; rfl)); (case hp => exact (Reps.none _ _)); intro v1 w1 ho hb hg_ hnew_; clear hg_ hnew_; have HO := Aside0.mk ho; have HB := Aside0.mk hb; clear ho hb) | ((with_reducible refine gate_builtin (b := .append) (xs := #[.tmp 5, .tmp 6]) rfl ?_); at_builtin; refine Kd.R_append_rows (Kd.int .i64) (w0 := w) w.heap.size rfl (.tmp 5) (.tmp 6) 39 3 (.int .i64 0) 8 rfl Try.underlying39 info3 rfl (by decide) (by omega) v1 [] xs _ _ _ (fun _ => True) (fun _ => False) rfl rfl HO.out ?aR (fun _ _ h => h) (fun _ h => h.elim) (fun _ _ => trivial) HB.out ?aS ?aL ?_; (case aR => exact Kd.C_below HR.out HB.out); (case aS => exact HB.out.size); (case aL => have := HL.out; simp; omega); intro v2 w2 ho hb hg hat; simp only [List.nil_append] at ho; have HO2 := Aside0.mk ho; have HB2 := Aside0.mk hb; clear ho hb hg hat))
    go_ret
    exact ⟨_, rfl, HO2.out, HB2.out⟩

set_option maxHeartbeats 4000000 in
set_option maxRecDepth 100000 in
theorem slices_Clone64.calls (A : Option Addr) (c : Nat) (xs : List S97) (w : World) (hr : Kd.C k97 w A xs.length xs) (hc : xs.length ≤ c) (hl : xs.length * 32 ≤ 140737488355328) :
    Calls Try.prog 64 #[.slice A xs.length c] w fun e w' => ∃ v, e = .returned v ∧ Kd.R k97 97 w' w.heap.size (fun _ => True) v xs ∧ Below w.heap.size w w' := by
  have HR := Aside0.mk hr
  have HL := Aside0.mk hl
  cases A with
  | none =>
    have h0 : xs.length = 0 := by
      rcases Nat.eq_zero_or_pos xs.length with h | h
      · exact h
      · obtain ⟨ad, e, _⟩ := hr.2.2 h
        cases e
    obtain rfl := List.eq_nil_of_length_eq_zero h0
    clear hr hl h0
    have heq : ∀ W : World, (binOp BinOp.eql 65 (.slice none 0 c) (.slice none 0 0)).run Try.prog W = .ok (.bool true) W := fun _ => by kernel_rfl
    go_enter Try.func64, Try.ntmps64
    go_wp2
    go_ret
    exact ⟨_, rfl, Kd.R_nil k97 97 _ _ _, Below.refl _ _⟩
  | some a =>
    clear hr hl
    have heq : ∀ W : World, (binOp BinOp.eql 65 (.slice (some a) xs.length c) (.slice none 0 0)).run Try.prog W = .ok (.bool false) W := fun _ => by kernel_rfl
    go_enter Try.func64, Try.ntmps64
    go_wp2_with (first | ((with_reducible refine gate_dst (N := 5) rfl ?_); refine Kd.R_lit k97 _ 97 ?hg (N := 5) ?hd (xs := ([] : List S97)) (inner := []) (ok := fun _ => True) (okp := fun _ => True) ?hr ?hp (fun _ hk => hk) trivial (Below.refl _ _) (Nat.le_refl _) (by simp) ?_; (case hd => rfl); (case hg => rfl); (case hr => first | (go_simp; done) | (go_simp; rfl)); (case hp => exact (Reps.none _ _)); intro v1 w1 ho hb hg_ hnew_; clear hg_ hnew_; have HO := Aside0.mk ho; have HB := Aside0.mk hb; clear ho hb) | ((with_reducible refine gate_builtin (b := .append) (xs := #[.tmp 5, .tmp 6]) rfl ?_); at_builtin; refine Kd.R_append_rows k97 (w0 := w) w.heap.size rfl (.tmp 5) (.tmp 6) 65 97 (.agg #[(.int .i64 0), (.bool false), (.int .i64 0), (.int .i64 0)]) 32 rfl Try.underlying65 info97 rfl (by decide) (by omega) v1 [] xs _ _ _ (fun _ => True) (fun _ => False) rfl rfl HO.out ?aR (fun _ _ h => h) (fun _ h => h.elim) (fun _ _ => trivial) HB.out ?aS ?aL ?_; (case aR => exact Kd.C_below HR.out HB.out); (case aS => exact HB.out.size); (case aL => have := HL.out; simp; omega); intro v2 w2 ho hb hg hat; simp only [List.nil_append] at ho; have HO2 := Aside0.mk ho; have HB2 := Aside0.mk hb; clear ho hb hg hat))
    go_ret
    exact ⟨_, rfl, HO2.out, HB2.out⟩

set_option maxHeartbeats 4000000 in
set_option maxRecDepth 100000 in
theorem slices_Clone65.calls (A : Option Addr) (c : Nat) (xs : List S89) (w : World) (hr : Kd.C k89 w A xs.length xs) (hc : xs.length ≤ c) (hl : xs.length * 16 ≤ 140737488355328) :
    Calls Try.prog 65 #[.slice A xs.length c] w fun e w' => ∃ v, e = .returned v ∧ Kd.R k89 89 w' w.heap.size (fun _ => True) v xs ∧ Below w.heap.size w w' := by
  have HR := Aside0.mk hr
  have HL := Aside0.mk hl
  cases A with
  | none =>
    have h0 : xs.length = 0 := by
      rcases Nat.eq_zero_or_pos xs.length with h | h
      · exact h
      · obtain ⟨ad, e, _⟩ := hr.2.2 h
        cases e
    obtain rfl := List.eq_nil_of_length_eq_zero h0
    clear hr hl h0
    have heq : ∀ W : World, (binOp BinOp.eql 50 (.slice none 0 c) (.slice none 0 0)).run Try.prog W = .ok (.bool true) W := fun _ => by kernel_rfl
    go_enter Try.func65, Try.ntmps65
    go_wp2
    go_ret
    exact ⟨_, rfl, Kd.R_nil k89 89 _ _ _, Below.refl _ _⟩
  | some a =>
    clear hr hl
    have heq : ∀ W : World, (binOp BinOp.eql 50 (.slice (some a) xs.length c) (.slice none 0 0)).run Try.prog W = .ok (.bool false) W := fun _ => by kernel_rfl
    go_enter Try.func65, Try.ntmps65
    go_wp2_with (first | ((with_reducible refine gate_dst (N := 5) rfl ?_); refine Kd.R_lit k89 _ 89 ?hg (N := 5) ?hd (xs := ([] : List S89)) (inner := []) (ok := fun _ => True) (okp := fun _ => True) ?hr ?hp (fun _ hk => hk) trivial (Below.refl _ _) (Nat.le_refl _) (by simp) ?_; (case hd => rfl); (case hg => rfl); (case hr => first | (go_simp; done) | (go_simp; rfl)); (case hp => exact (Reps.none _ _)); intro v1 w1 ho hb hg_ hnew_; clear hg_ hnew_; have HO := Aside0.mk ho; have HB := Aside0.mk hb; clear ho hb) | ((with_reducible refine gate_builtin (b := .append) (xs := #[.tmp 5, .tmp 6]) rfl ?_); at_builtin; refine Kd.R_append_rows k89 (w0 := w) w.heap.size rfl (.tmp 5) (.tmp 6) 50 89 (.agg #[(.int .i64 0), (.int .i64 0)]) 16 rfl Try.underlying50 info89 rfl (by decide) (by omega) v1 [] xs _ _ _ (fun _ => True) (fun _ => False) rfl rfl HO.out ?aR (fun _ _ h => h) (fun _ h => h.elim) (fun _ _ => trivial) HB.out ?aS ?aL ?_; (case aR => exact Kd.C_below HR.out HB.out); (case aS => exact HB.out.size); (case aL => have := HL.out; simp; omega); intro v2 w2 ho hb hg hat; simp only [List.nil_append] at ho; have HO2 := Aside0.mk ho; have HB2 := Aside0.mk hb; clear ho hb hg hat))
    go_ret
    exact ⟨_, rfl, HO2.out, HB2.out⟩
end Go.Proofs.Ytihfopblmjgfaaa.Q

/- params.Clone of a zero header. Printed by wip/tools/genClone2.py of this session. -/
namespace Go.Proofs.Ytihfopblmjgfaaa.Q
open Go.RowKit Go.Proofs.YtihfopblmjgfaaaW.PrintWords Go.Proofs.YtihfopblmjgfaaaW.PrintLast Go.Proofs.YtihfopblmjgfaaaW.PrintMore
set_option linter.unusedVariables false
set_option linter.unusedSimpArgs false

set_option maxHeartbeats 8000000 in
set_option maxRecDepth 100000 in
theorem params_Clone.calls (a1_0 : Int) (a1_1 : Int) (a1_2 : Int) (a1_3 : Int) (a1_4 : Int) (A1_5 : Option Addr) (c1_5 : Nat) (l1_5 : List S89) (a1_6 : Int) (a1_7 : Int) (a1_8 : Bool) (a1_9 : Bool) (a1_10 : Bool) (a1_11 : Bool) (a1_12 : Bool) (a1_13 : Bool) (a1_14 : Bool) (a1_15 : Bool) (A1_16 : Option Addr) (c1_16 : Nat) (l1_16 : List Int) (a1_17 : Int) (a1_18 : Int) (w : World) (hr1_5 : Kd.C k89 w A1_5 l1_5.length l1_5) (hc1_5 : l1_5.length ≤ c1_5) (hr1_16 : Kd.C (Kd.int .i64) w A1_16 l1_16.length l1_16) (hc1_16 : l1_16.length ≤ c1_16) (hl5 : l1_5.length * 16 ≤ 140737488355328) (hl16 : l1_16.length * 8 ≤ 140737488355328) :
    Calls Try.prog 53 #[.agg #[.int .i64 0, .int .i64 0, .int .i64 0, .int .i64 0, .int .i64 0, .int .i64 0, .slice none 0 0], .agg #[.int .i64 a1_0, .int .i64 a1_1, .int .i64 a1_2, .int .i64 a1_3, .int .i64 a1_4, .slice A1_5 l1_5.length c1_5, .int .i64 a1_6, .int .i64 a1_7, .bool a1_8, .bool a1_9, .bool a1_10, .bool a1_11, .bool a1_12, .bool a1_13, .bool a1_14, .bool a1_15, .slice A1_16 l1_16.length c1_16, .int .i64 a1_17, .int .i64 a1_18]] w fun e w' => ∃ v6_ v12_ v23_ : Value, e = .returned (.tuple #[.agg #[.int .i64 0, .int .i64 0, .int .i64 0, .int .i64 0, .int .i64 0, .int .i64 0, v6_], .agg #[.int .i64 a1_0, .int .i64 a1_1, .int .i64 a1_2, .int .i64 a1_3, .int .i64 a1_4, v12_, .int .i64 a1_6, .int .i64 a1_7, .bool a1_8, .bool a1_9, .bool a1_10, .bool a1_11, .bool a1_12, .bool a1_13, .bool a1_14, .bool a1_15, v23_, .int .i64 a1_17, .int .i64 a1_18]]) ∧ Kd.R k97 97 w' w.heap.size (fun _ => True) v6_ [] ∧ Kd.R k89 89 w' w.heap.size (fun _ => True) v12_ l1_5 ∧ Kd.R (Kd.int .i64) 3 w' w.heap.size (fun _ => True) v23_ l1_16 ∧ Below w.heap.size w w' := by
  have HR5 := Aside0.mk hr1_5
  have HR16 := Aside0.mk hr1_16
  have HL5 := Aside0.mk hl5
  have HL16 := Aside0.mk hl16
  clear hr1_5 hr1_16 hl5 hl16
  go_enter Try.func53, Try.ntmps53
  go_wp2_with (go_at_call 64; fail)
  generalize hW : ((((w.alloc (Obj.cells #[.int .i64 0, .int .i64 0, .int .i64 0, .int .i64 0, .int .i64 0, .int .i64 0, .slice none 0 0] 67)).alloc (Obj.cells #[.int .i64 a1_0, .int .i64 a1_1, .int .i64 a1_2, .int .i64 a1_3, .int .i64 a1_4, .slice A1_5 l1_5.length c1_5, .int .i64 a1_6, .int .i64 a1_7, .bool a1_8, .bool a1_9, .bool a1_10, .bool a1_11, .bool a1_12, .bool a1_13, .bool a1_14, .bool a1_15, .slice A1_16 l1_16.length c1_16, .int .i64 a1_17, .int .i64 a1_18] 55)).alloc (Obj.cells #[.int .i64 0, .int .i64 0, .int .i64 0, .int .i64 0, .int .i64 0, .int .i64 0, .slice none 0 0] 67)).alloc (Obj.cells #[.int .i64 0, .int .i64 0, .int .i64 0, .int .i64 0, .int .i64 0, .slice none 0 0, .int .i64 0, .int .i64 0, .bool false, .bool false, .bool false, .bool false, .bool false, .bool false, .bool false, .bool false, .slice none 0 0, .int .i64 0, .int .i64 0] 55)) = W0
  have K0 : Bks w.heap.size w W0 [(w.heap.size + 1 + 1 + 1, 55, #[.int .i64 0, .int .i64 0, .int .i64 0, .int .i64 0, .int .i64 0, .slice none 0 0, .int .i64 0, .int .i64 0, .bool false, .bool false, .bool false, .bool false, .bool false, .bool false, .bool false, .bool false, .slice none 0 0, .int .i64 0, .int .i64 0]), (w.heap.size + 1 + 1, 67, #[.int .i64 0, .int .i64 0, .int .i64 0, .int .i64 0, .int .i64 0, .int .i64 0, .slice none 0 0]), (w.heap.size + 1, 55, #[.int .i64 a1_0, .int .i64 a1_1, .int .i64 a1_2, .int .i64 a1_3, .int .i64 a1_4, .slice A1_5 l1_5.length c1_5, .int .i64 a1_6, .int .i64 a1_7, .bool a1_8, .bool a1_9, .bool a1_10, .bool a1_11, .bool a1_12, .bool a1_13, .bool a1_14, .bool a1_15, .slice A1_16 l1_16.length c1_16, .int .i64 a1_17, .int .i64 a1_18]), (w.heap.size, 67, #[.int .i64 0, .int .i64 0, .int .i64 0, .int .i64 0, .int .i64 0, .int .i64 0, .slice none 0 0])] := by
    have h1 := (Bks.nil w).alloc (Nat.le_refl _) #[.int .i64 0, .int .i64 0, .int .i64 0, .int .i64 0, .int .i64 0, .int .i64 0, .slice none 0 0] 67
    have h2 := h1.alloc (by simp) #[.int .i64 a1_0, .int .i64 a1_1, .int .i64 a1_2, .int .i64 a1_3, .int .i64 a1_4, .slice A1_5 l1_5.length c1_5, .int .i64 a1_6, .int .i64 a1_7, .bool a1_8, .bool a1_9, .bool a1_10, .bool a1_11, .bool a1_12, .bool a1_13, .bool a1_14, .bool a1_15, .slice A1_16 l1_16.length c1_16, .int .i64 a1_17, .int .i64 a1_18] 55
    have h3 := h2.alloc (by simp; omega) #[.int .i64 0, .int .i64 0, .int .i64 0, .int .i64 0, .int .i64 0, .int .i64 0, .slice none 0 0] 67
    have h4 := h3.alloc (by simp; omega) #[.int .i64 0, .int .i64 0, .int .i64 0, .int .i64 0, .int .i64 0, .slice none 0 0, .int .i64 0, .int .i64 0, .bool false, .bool false, .bool false, .bool false, .bool false, .bool false, .bool false, .bool false, .slice none 0 0, .int .i64 0, .int .i64 0] 55
    rw [hW] at h4
    simpa using h4
  generalize h3 : w.heap.size + 1 + 1 + 1 = g3 at *
  generalize h2 : w.heap.size + 1 + 1 = g2 at *
  generalize h1 : w.heap.size + 1 = g1 at *
  generalize h0 : w.heap.size = g0 at K0 ⊢
  clear hW h1 h2 h3
  have d10 : g1 ≠ g0 := K0.ne 2 3 _ _ (by decide) rfl rfl
  have d01 := Ne.symm d10
  have hs0 := below_size (h0 ▸ K0.below)
  refine (slices_Clone64.calls none 0 [] W0 (Kd.C_nil _ _) (Nat.le_refl _) (by simp)).mono ?_
  rintro _ w1 ⟨v6, rfl, r6, b1⟩
  obtain ⟨Ao6, co6, rfl⟩ := Kd.R_slice r6
  have K1 := Aside0.mk (K0.call (h0 ▸ hs0) b1)
  have R6 := Aside0.mk (row_set (Kd.R_lower r6 hs0) (K1.out.get 3 rfl) (by decide) 6 (.slice Ao6 ([] : List S97).length co6))
  clear K0 r6 b1
  have s1 : w1.cell? ⟨g0, 6, none⟩ = some (.slice none 0 0) := K1.out.cell 3 rfl 6 rfl
  have z1 := blk_frozen (K1.out.get 3 rfl) 6
  have u1 : w1.cell? ⟨g1, 5, none⟩ = some (.slice A1_5 l1_5.length c1_5) := K1.out.cell 2 rfl 5 rfl
  have K2 := Aside0.mk (K1.out.set 3 rfl 6 (.slice Ao6 ([] : List S97).length co6) rfl)
  clear K1
  go_wp2_with (go_at_call 65; fail)
  clear s1 z1 u1
  rw [show (([] : List S97).length) = 0 from rfl] at K2 R6
  generalize w1.setCell ⟨g0, 6, none⟩ (.slice Ao6 0 co6) = w2 at *
  clear w1
  have hs2 := below_size (h0 ▸ K2.out.below)
  refine (slices_Clone65.calls A1_5 c1_5 l1_5 w2 (Kd.C_below HR5.out (h0 ▸ K2.out.below)) hc1_5 HL5.out).mono ?_
  rintro _ w3 ⟨v5, rfl, r5, b3⟩
  obtain ⟨Ao5, co5, rfl⟩ := Kd.R_slice r5
  have K3 := Aside0.mk (K2.out.call (h0 ▸ hs2) b3)
  have R6' := Aside0.mk (row_set (Kd.R_below R6.out b3) (K3.out.get 2 rfl) (by decide) 5 (.slice Ao5 l1_5.length co5))
  have R5 := Aside0.mk (row_set (Kd.R_lower r5 hs2) (K3.out.get 2 rfl) (by decide) 5 (.slice Ao5 l1_5.length co5))
  clear K2 r5 b3 R6
  have s1 : w3.cell? ⟨g1, 5, none⟩ = some (.slice A1_5 l1_5.length c1_5) := K3.out.cell 2 rfl 5 rfl
  have z1 := blk_frozen (K3.out.get 2 rfl) 5
  have u1 : w3.cell? ⟨g1, 16, none⟩ = some (.slice A1_16 l1_16.length c1_16) := K3.out.cell 2 rfl 16 rfl
  have K4 := Aside0.mk (K3.out.set 2 rfl 5 (.slice Ao5 l1_5.length co5) rfl)
  clear K3
  go_wp2_with (go_at_call 66; fail)
  clear s1 z1 u1
  generalize w3.setCell ⟨g1, 5, none⟩ (.slice Ao5 l1_5.length co5) = w4 at *
  clear w3
  have hs4 := below_size (h0 ▸ K4.out.below)
  refine (slices_Clone66.calls A1_16 c1_16 l1_16 w4 (Kd.C_below HR16.out (h0 ▸ K4.out.below)) hc1_16 HL16.out).mono ?_
  rintro _ w5 ⟨v16, rfl, r16, b5⟩
  obtain ⟨Ao16, co16, rfl⟩ := Kd.R_slice r16
  have K5 := Aside0.mk (K4.out.call (h0 ▸ hs4) b5)
  have R6 := Aside0.mk (row_set (Kd.R_below R6'.out b5) (K5.out.get 2 rfl) (by decide) 16 (.slice Ao16 l1_16.length co16))
  have R5' := Aside0.mk (row_set (Kd.R_below R5.out b5) (K5.out.get 2 rfl) (by decide) 16 (.slice Ao16 l1_16.length co16))
  have R16 := Aside0.mk (row_set (Kd.R_lower r16 hs4) (K5.out.get 2 rfl) (by decide) 16 (.slice Ao16 l1_16.length co16))
  clear K4 r16 b5 R6' R5
  have s1 : w5.cell? ⟨g1, 16, none⟩ = some (.slice A1_16 l1_16.length c1_16) := K5.out.cell 2 rfl 16 rfl
  have z1 := blk_frozen (K5.out.get 2 rfl) 16
  have K6 := Aside0.mk (K5.out.set 2 rfl 16 (.slice Ao16 l1_16.length co16) rfl)
  clear K5
  go_wp2
  clear s1 z1
  generalize w5.setCell ⟨g1, 16, none⟩ (.slice Ao16 l1_16.length co16) = w6 at *
  clear w5
  have K7 := Aside0.mk K6.out.drew
  have R67 := Aside0.mk (Kd.R_drew R6.out)
  have R57 := Aside0.mk (Kd.R_drew R5'.out)
  have R167 := Aside0.mk (Kd.R_drew R16.out)
  clear K6 R6 R5' R16
  refine start_ (n := 4) (S := fun w' => w'.heap[g0]? = some (.cells #[.int .i64 0, .int .i64 0, .int .i64 0, .int .i64 0, .int .i64 0, .int .i64 0, .slice Ao6 0 co6] 67 (0, 0)) ∧ w'.heap[g1]? = some (.cells #[.int .i64 a1_0, .int .i64 a1_1, .int .i64 a1_2, .int .i64 a1_3, .int .i64 a1_4, .slice Ao5 l1_5.length co5, .int .i64 a1_6, .int .i64 a1_7, .bool a1_8, .bool a1_9, .bool a1_10, .bool a1_11, .bool a1_12, .bool a1_13, .bool a1_14, .bool a1_15, .slice Ao16 l1_16.length co16, .int .i64 a1_17, .int .i64 a1_18] 55 (0, 0))) (ds := []) #[false, false, false, false] (by kernel_rfl) rfl rfl ⟨K7.out.get 3 rfl, K7.out.get 2 rfl⟩ (fun hHeld => ?_)
  generalize w6.drew = w7 at *
  clear w6
  refine take_ (i := 0) (N := some 18) (v := .agg #[.int .i64 0, .int .i64 0, .int .i64 0, .int .i64 0, .int .i64 0, .int .i64 0, .slice Ao6 0 co6]) (a' := ?_) #[true, false, false, false] rfl rfl (by kernel_rfl) (fun _ _ _ h => h) (load_yields (by rfl) 67 (.tmp 2) rfl rfl (fun _ h => h.1) Try.underlying67 rfl) hHeld ?_ ?_
  rotate_left
  · simp only [Act.put, List.setIfInBounds_toArray, List.set_cons_zero, List.set_cons_succ]
    rfl
  refine take_ (i := 1) (N := some 19) (v := .agg #[.int .i64 a1_0, .int .i64 a1_1, .int .i64 a1_2, .int .i64 a1_3, .int .i64 a1_4, .slice Ao5 l1_5.length co5, .int .i64 a1_6, .int .i64 a1_7, .bool a1_8, .bool a1_9, .bool a1_10, .bool a1_11, .bool a1_12, .bool a1_13, .bool a1_14, .bool a1_15, .slice Ao16 l1_16.length co16, .int .i64 a1_17, .int .i64 a1_18]) (a' := ?_) #[true, true, false, false] rfl rfl (by kernel_rfl) (fun _ _ _ h => h) (load_yields (by rfl) 55 (.tmp 3) rfl rfl (fun _ h => h.2) Try.underlying55 rfl) hHeld ?_ ?_
  rotate_left
  · simp only [Act.put, List.setIfInBounds_toArray, List.set_cons_zero, List.set_cons_succ]
    rfl
  refine one_ (i := 2) (N := none) #[true, true, true, false] rfl rfl (by kernel_rfl) (by decide) (fun K hK => ?_)
  refine store_step (by rfl) rfl 67 (.tmp 4) (.tmp 18) rfl rfl rfl (K7.out.get 1 rfl) rfl rfl (by first | (kernel_rfl) | (simp [Value.oneCell'])) (fun w8 hs => ?_)
  have K8 := Aside0.mk (K7.out.stored 1 rfl hs)
  have R68 := Aside0.mk (row_stored R67.out (K7.out.get 1 rfl) (by decide) hs)
  have R58 := Aside0.mk (row_stored R57.out (K7.out.get 1 rfl) (by decide) hs)
  have R168 := Aside0.mk (row_stored R167.out (K7.out.get 1 rfl) (by decide) hs)
  clear K7 R67 R57 R167 hs
  refine hK.out _ _ ⟨K8.out.get 3 rfl, K8.out.get 2 rfl⟩ (fun hHeld => ?_)
  clear hK K
  refine one_ (i := 3) (N := none) #[true, true, true, true] rfl rfl (by kernel_rfl) (by decide) (fun K hK => ?_)
  refine store_step (by rfl) rfl 55 (.tmp 5) (.tmp 19) rfl rfl rfl (K8.out.get 0 rfl) rfl rfl (by first | (kernel_rfl) | (simp [Value.oneCell'])) (fun w9 hs => ?_)
  have K9 := Aside0.mk (K8.out.stored 0 rfl hs)
  have R69 := row_stored R68.out (K8.out.get 0 rfl) (by decide) hs
  have R59 := row_stored R58.out (K8.out.get 0 rfl) (by decide) hs
  have R169 := row_stored R168.out (K8.out.get 0 rfl) (by decide) hs
  clear K8 R68 R58 R168 hs
  refine hK.out _ _ ⟨K9.out.get 3 rfl, K9.out.get 2 rfl⟩ (fun hHeld => ?_)
  clear hK K
  refine done_ (by kernel_rfl) ?_
  go_wp2
  refine bodyPost_ret (results_cc rfl _ _ g2 g3 67 55 #[.int .i64 0, .int .i64 0, .int .i64 0, .int .i64 0, .int .i64 0, .int .i64 0, .slice Ao6 0 co6] #[.int .i64 a1_0, .int .i64 a1_1, .int .i64 a1_2, .int .i64 a1_3, .int .i64 a1_4, .slice Ao5 l1_5.length co5, .int .i64 a1_6, .int .i64 a1_7, .bool a1_8, .bool a1_9, .bool a1_10, .bool a1_11, .bool a1_12, .bool a1_13, .bool a1_14, .bool a1_15, .slice Ao16 l1_16.length co16, .int .i64 a1_17, .int .i64 a1_18] (0, 0) (0, 0) _ _ rfl (K9.out.get 1 rfl) Try.underlying67 rfl (by kernel_rfl) rfl (K9.out.get 0 rfl) Try.underlying55 rfl (by kernel_rfl)) rfl ?_
  exact ⟨_, _, _, rfl, R69, R59, R169, h0 ▸ K9.out.below⟩
end Go.Proofs.Ytihfopblmjgfaaa.Q

/- ParseQuant: the closure that reads the steps, and the function. Printed by wip/tools/genQuant.py of this session. -/
namespace Go.Proofs.Ytihfopblmjgfaaa.Q
open Go.RowKit Go.Proofs.YtihfopblmjgfaaaW.PrintWords Go.Proofs.YtihfopblmjgfaaaW.PrintLast Go.Proofs.YtihfopblmjgfaaaW.PrintMore
set_option linter.unusedVariables false
set_option linter.unusedSimpArgs false

/-- The steps: the error, the list, the place behind. -/
def quantLoop : Nat → List Int → Int → Int → List Int → Option (Int × List Int × Int)
  | 0, _, _, _, _ => none
  | k + 1, l, p, n, xs => if n > 0 then (if xs.length < 17592186044415 then rdn k l p 2 (fun e => (e, [], 0)) (fun x => quantLoop k l (wrap64 (p + 2)) (wrap64 (n - 1)) (xs ++ [wrap64 (x + 1)])) else none) else some (0, xs, p)
theorem quantLoop.mono : ∀ k l p n xs, LeO (quantLoop k l p n xs) (quantLoop (k + 1) l p n xs)
  | 0, _, _, _, _ => LeO.none _
  | k + 1, l, p, n, xs => by
    rw [quantLoop.eq_2, quantLoop.eq_2]
    exact LeO.ite (LeO.ite (rdn_mono _ _ _ _ _ fun _ => quantLoop.mono _ _ _ _ _) (LeO.refl _)) (LeO.refl _)
def badQuant (e : Int) : Int × Int × List Int × Int := (e, 0, [], 0)
def quantRead (k : Nat) (l : List Int) : Option (Int × Int × List Int × Int) :=
  rdn k l 0 1 badQuant fun d => rdn k l 1 1 badQuant fun n => (quantLoop k l 2 n []).bind fun t => some (if t.1 = 0 then (0, d, t.2.1, t.2.2) else badQuant t.1)
theorem quantRead.mono (k : Nat) (l : List Int) : LeO (quantRead k l) (quantRead (k + 1) l) :=
  rdn_mono _ _ _ _ _ fun _ => rdn_mono _ _ _ _ _ fun _ => LeO.bind (quantLoop.mono _ _ _ _ _) fun _ => LeO.refl _

set_option maxHeartbeats 8000000 in
set_option maxRecDepth 100000 in
theorem quant_closure (k : Nat) (wb w1 : World) (A : Option Addr) (c : Nat) (l : List Int) (hC : Kd.C (Kd.int .u8) wb A l.length l) (hc : l.length ≤ c) (ra g : Nat) (hr1 : g ≠ ra) (l0 : wb.heap.size ≤ ra) (l1 : wb.heap.size ≤ g) (hlr : ra < w1.heap.size) (hlg : g < w1.heap.size)
    (X0 X1 X2 X3 X4 X5 X6 X7 X8 X9 X10 X11 X12 X13 X14 X15 X17 X18 : Value) (hB : Below wb.heap.size wb w1) (br : w1.heap[ra]? = some (.cells #[.slice A l.length c, .int .i64 0] 102 (0, 0))) (b1 : w1.heap[g]? = some (.cells #[X0, X1, X2, X3, X4, X5, X6, X7, X8, X9, X10, X11, X12, X13, X14, X15, .slice none 0 0, X17, X18] 55 (0, 0)))
    (hX : ∃ d0, X17 = .int .i64 d0) (e dead : Int) (xs : List Int) (pe : Int) (h : quantRead k l = some (e, dead, xs, pe)) :
    Calls Try.prog 54 #[.pointer (some ⟨ra, 0, none⟩), .pointer (some ⟨g, 0, none⟩)] w1 fun en w2 => Only (fun k => k = g ∨ k = ra) w1 w2 ∧
      ((∃ p, en = .returned (.tuple #[]) ∧ w2.heap[ra]? = some (.cells #[.slice A l.length c, .int .i64 p] 102 (0, 0)) ∧ (e = 0 ∧ p = pe ∧ ∃ v, w2.heap[g]? = some (.cells #[X0, X1, X2, X3, X4, X5, X6, X7, X8, X9, X10, X11, X12, X13, X14, X15, v, .int .i64 dead, X18] 55 (0, 0)) ∧ Kd.R (Kd.int .i64) 3 w2 wb.heap.size (fun k => w1.heap.size ≤ k) v xs)) ∨
        ∃ e', en = .panicked [{ v := .iface 99 (.agg #[.int .i64 e']), recovered := false }] ∧ (e' = e ∧ e ≠ 0)) := by
  obtain ⟨d0, rfl⟩ := hX
  have H := Aside0.mk h
  have R := RS.mk (S := fun k => k = g ∨ k = ra) br hB (Only.refl _ w1)
  have B1 := Aside0.mk b1
  clear h br hB b1
  go_enter Try.func54, Try.ntmps54
  cases hq0 : marker_ReadUint.f k l 0 1 with
  | none => have h := H.out; simp [quantRead, rdn, hq0] at h
  | some q0 =>
  obtain ⟨x_0, y_0⟩ := q0
  by_cases hy0 : y_0 = 0
  rotate_left
  · have h := H.out
    simp [quantRead, rdn, badQuant, hq0, hy0] at h
    have h' := Aside0.mk h
    clear h
    go_wp2_with (go_at_call 49; (with_reducible refine (reader_uint.calls k ra A c l 0 1 x_0 y_0 _ R.br (Kd.C_below hC R.below) hc hq0).mono ?_); rintro en w' (⟨hne, _, _⟩ | ⟨_, rfl, hd⟩); exact absurd hne hy0)
    obtain ⟨rfl, -⟩ := h'.out
    exact ⟨rfl, (R.drawn hd).only, .inr ⟨_, rfl, rfl, hy0⟩⟩
  go_wp2_with (go_at_call 49; (with_reducible refine (reader_uint.calls k ra A c l 0 1 x_0 y_0 _ R.br (Kd.C_below hC R.below) hc hq0).mono ?_); rintro en w2 (⟨_, rfl, hd⟩ | ⟨hne, _, _⟩); rotate_left; (exact absurd hy0 hne); have R1 := R.read (p' := 1) l0 (.inr rfl) _ hd (by unfold wrap64; omega); have n1 := Aside0.mk (RS.far B1.out hr1 hd); clear B1 hd; have B1 := n1; clear n1; have hcg : w2.cell? ⟨g, 17, none⟩ = some (.int .i64 d0) := (blk_cell B1.out 17).trans rfl; have hzg := blk_frozen B1.out 17)
  clear hcg hzg
  replace R1 := R1.store l1 (.inl rfl) hr1 17 (.int .i64 x_0)
  replace B1 := Aside0.mk (blk_put (cs' := #[X0, X1, X2, X3, X4, X5, X6, X7, X8, X9, X10, X11, X12, X13, X14, X15, .slice none 0 0, .int .i64 x_0, X18]) B1.out 17 (.int .i64 x_0) rfl)
  cases hq1 : marker_ReadUint.f k l 1 1 with
  | none => have h := H.out; simp [quantRead, rdn, hq0, hy0, hq1] at h
  | some q1 =>
  obtain ⟨x_1, y_1⟩ := q1
  by_cases hy1 : y_1 = 0
  rotate_left
  · have h := H.out
    simp [quantRead, rdn, badQuant, hq0, hy0, hq1, hy1] at h
    have h' := Aside0.mk h
    clear h
    go_wp2_with (go_at_call 49; (with_reducible refine (reader_uint.calls k ra A c l 1 1 x_1 y_1 _ R1.br (Kd.C_below hC R1.below) hc hq1).mono ?_); rintro en w' (⟨hne, _, _⟩ | ⟨_, rfl, hd⟩); exact absurd hne hy1)
    obtain ⟨rfl, -⟩ := h'.out
    exact ⟨rfl, (R1.drawn hd).only, .inr ⟨_, rfl, rfl, hy1⟩⟩
  go_wp2_with (go_at_call 49; (with_reducible refine (reader_uint.calls k ra A c l 1 1 x_1 y_1 _ R1.br (Kd.C_below hC R1.below) hc hq1).mono ?_); rintro en w3 (⟨_, rfl, hd⟩ | ⟨hne, _, _⟩); rotate_left; (exact absurd hy1 hne); have R2 := R1.read (p' := 2) l0 (.inr rfl) _ hd (by unfold wrap64; omega); have n1 := Aside0.mk (RS.far B1.out hr1 hd); clear B1 hd; have B1 := n1; clear n1)
  cases hsl : quantLoop k l 2 x_1 [] with
  | none => have h := H.out; simp [quantRead, rdn, hq0, hy0, hq1, hy1, hsl] at h
  | some t =>
  have HT := Aside0.mk (show (if t.1 = 0 then (0, x_0, t.2.1, t.2.2) else badQuant t.1) = (e, dead, xs, pe) by have h := H.out; simpa [quantRead, rdn, hq0, hy0, hq1, hy1, hsl] using h)
  have HSL := Aside0.mk hsl
  clear hsl H hq0 hq1 hy0 hy1
  clear R R1
  have hsz8 : w1.heap.size ≤ w3.heap.size := R2.only.size
  have HR0 := Aside0.mk (Kd.R_nil (Kd.int .i64) 3 w3 wb.heap.size (fun k => w1.heap.size ≤ k))
  go_loopg [3] k (fun kq v3 w' => ∃ (n p : Int) (ys : List Int) (v : Value), v3 = .int .i64 n ∧ Aside0 (quantLoop kq l p n ys = some t) ∧ RS (fun k => k = g ∨ k = ra) wb w1 ra A l.length c p w' ∧ Aside0 (w'.heap[g]? = some (.cells #[X0, X1, X2, X3, X4, X5, X6, X7, X8, X9, X10, X11, X12, X13, X14, X15, v, .int .i64 x_0, X18] 55 (0, 0))) ∧ Aside0 (Kd.R (Kd.int .i64) 3 w' wb.heap.size (fun k => w1.heap.size ≤ k) v ys))
  case atStart => exact ⟨x_1, 2, [], _, rfl, HSL, R2, B1, HR0⟩
  case round =>
    clear HSL R2 B1 HR0 hsz8
    obtain ⟨n, p, ys, v, rfl, HS, R, B1, HR⟩ := hrel
    cases gk with
    | zero => exact absurd HS.out (by simp [quantLoop])
    | succ kk =>
    have hs := HS.out
    clear HS
    rw [quantLoop.eq_2] at hs
    by_cases hn : n > 0
    rotate_left
    · rw [if_neg hn] at hs
      have hn0 : decide (0 < n) = false := decide_eq_false hn
      obtain rfl : (0, ys, p) = t := Option.some.inj hs
      have ht := HT.out
      simp only [if_true, Prod.mk.injEq] at ht
      obtain ⟨rfl, rfl, rfl, rfl⟩ := ht
      clear hs HT
      go_wp2
      go_end0
      first | exact ⟨R.only, .inl ⟨_, rfl, R.br, rfl, rfl, v, B1.out, HR.out⟩⟩ | exact ⟨R.only, rfl, _, R.br, rfl, v, B1.out, HR.out⟩
    rw [if_pos hn] at hs
    have hn1 : decide (0 < n) = true := decide_eq_true hn
    by_cases hlim : ys.length < 17592186044415
    rotate_left
    · rw [if_neg hlim] at hs; exact absurd hs (by simp)
    rw [if_pos hlim] at hs
    have HLIM := Aside0.mk hlim
    clear hlim
    (try simp only [rdn] at hs)
    cases hq2 : marker_ReadUint.f kk l p 2 with
    | none => rw [hq2] at hs; exact absurd hs (by simp)
    | some q2 =>
    obtain ⟨x_2, y_2⟩ := q2
    rw [hq2] at hs
    simp only [Option.bind_some] at hs
    have hs' := Aside0.mk hs
    have HQ := Aside0.mk hq2
    clear hs hq2
    go_wp2
    have R9 := RS.mk (S := fun k => k = g ∨ k = ra) (blk_drew R.br) (below_drew1 R.below) (R.only.trans (Only.of_below (below_drew1 (Below.refl _ _))))
    have B9 := Aside0.mk (blk_drew B1.out)
    have HR9 := Aside0.mk (Kd.R_drew HR.out)
    clear R B1 HR
    obtain ⟨A0, c0, rfl⟩ := Kd.R_slice HR9.out
    refine start_ (n := 9) (S := fun w' => w'.cell? ⟨g, 16, none⟩ = some (.slice A0 ys.length c0)) (ds := [8]) #[false, false, false, false, false, false, false, false, false] (by kernel_rfl) rfl rfl ((blk_cell B9.out 16).trans rfl) (fun hHeld => ?_)
    generalize wr.drew = w4 at *
    refine pure_ (i := 0) (N := some 13) (v := ?_) (a' := ?_) #[true, false, false, false, false, false, false, false, false] rfl rfl (by kernel_rfl) (fun _ _ _ h => h) (Or.inl ⟨by rfl, ?_⟩) ?_ ?_
    rotate_left
    · intro w'
      go_simp
      with_reducible rfl
    rotate_left
    · simp only [Act.put, List.setIfInBounds_toArray, List.set_cons_zero, List.set_cons_succ, i64_w, i32_w]
      rfl
    refine pure_ (i := 2) (N := some 15) (v := ?_) (a' := ?_) #[true, false, true, false, false, false, false, false, false] rfl rfl (by kernel_rfl) (fun _ _ _ h => h) (Or.inl ⟨by rfl, ?_⟩) ?_ ?_
    rotate_left
    · intro w'
      go_simp
      with_reducible rfl
    rotate_left
    · simp only [Act.put, List.setIfInBounds_toArray, List.set_cons_zero, List.set_cons_succ, i64_w, i32_w]
      rfl
    refine take_ (i := 1) (N := some 14) (v := ?_) (a' := ?_) #[true, true, true, false, false, false, false, false, false] rfl rfl (by kernel_rfl) (fun _ _ _ h => h) (Or.inl ⟨by rfl, ?_⟩) hHeld ?_ ?_
    rotate_left
    · intro w' s0
      go_simp
      with_reducible rfl
    rotate_left
    · simp only [Act.put, List.setIfInBounds_toArray, List.set_cons_zero, List.set_cons_succ, i64_w, i32_w]
      rfl
    refine one_ (i := 3) (N := some 16) #[true, true, true, true, false, false, false, false, false] rfl rfl (by kernel_rfl) (by decide) (fun K hK => ?_)
    refine goesP_ Try.func49 (by kernel_rfl) rfl #[.pointer (some ⟨ra, 0, none⟩), .int .i64 2] (by rfl) rfl rfl (by simp only [List.map_toArray, List.map_cons, List.map_nil]; rfl) ?_
    refine (reader_uint.calls kk ra A c l p 2 x_2 y_2 _ R9.br (Kd.C_below hC R9.below) hc HQ.out).mono ?_
    rintro en w5 (⟨hy2, rfl, hd⟩ | ⟨hy2, rfl, hd⟩)
    rotate_left
    · refine .inr ⟨_, rfl, ?_⟩
      have hs := hs'.out
      rw [if_neg hy2] at hs
      obtain rfl : (y_2, [], 0) = t := Option.some.inj hs
      have ht := HT.out
      rw [if_neg hy2] at ht
      simp only [badQuant, Prod.mk.injEq] at ht
      exact ⟨rfl, (R9.drawn hd).only, .inr ⟨_, rfl, ht.1, fun h0 => hy2 (by rw [ht.1]; exact h0)⟩⟩
    refine .inl ⟨_, rfl, ?_⟩
    have hs := hs'.out
    rw [if_pos hy2] at hs
    have HS := Aside0.mk hs
    have R5 := R9.read (p' := wrap64 (p + 2)) l0 (.inr rfl) _ hd rfl
    have B5 := Aside0.mk (RS.far B9.out hr1 hd)
    have HR5 := Aside0.mk (RS.readR HR9.out (fun k hk => by omega) hd)
    clear R9 B9 HR9 hd hs hs' hHeld
    refine hK.out _ _ ((blk_cell B5.out 16).trans rfl) (fun hHeld => ?_)
    clear hK K
    refine norm_ (a' := ?_) ?_ ?_
    rotate_left
    · show Act.put _ (some 16) _ = _
      simp only [Act.put, List.setIfInBounds_toArray, List.set_cons_zero, List.set_cons_succ, i64_w, i32_w]
      rfl
    refine pure_ (i := 4) (N := some 17) (v := ?_) (a' := ?_) #[true, true, true, true, true, false, false, false, false] rfl rfl (by kernel_rfl) (fun _ _ _ h => h) (Or.inl ⟨by rfl, ?_⟩) ?_ ?_
    rotate_left
    · intro w'
      go_simp
      with_reducible rfl
    rotate_left
    · simp only [Act.put, List.setIfInBounds_toArray, List.set_cons_zero, List.set_cons_succ, i64_w, i32_w]
      rfl
    refine one_ (i := 5) (N := some 18) #[true, true, true, true, true, true, false, false, false] rfl rfl (by kernel_rfl) (by decide) (fun K hK => ?_)
    refine value_ (w1 := ?_) (v := ?_) (by rfl) rfl ?_ ?_
    rotate_left 2
    · go_simp
      constructor
      · rfl
      · rfl
    refine hK.out _ _ ((blk_cell (blk_alloc B5.out _) 16).trans rfl) (fun hHeld => ?_)
    clear hK K
    refine norm_ (a' := ?_) ?_ ?_
    rotate_left
    · show Act.put _ (some 18) _ = _
      simp only [Act.put, List.setIfInBounds_toArray, List.set_cons_zero, List.set_cons_succ, i64_w, i32_w]
      rfl
    refine one_ (i := 6) (N := some 19) #[true, true, true, true, true, true, true, false, false] rfl rfl (by kernel_rfl) (by decide) (fun K hK => ?_)
    refine Kd.R_append_step (Kd.int .i64) (w0 := wb) wb.heap.size (by rfl) (.tmp 14) (.tmp 18) 39 3 (.int .i64 0) 8 rfl Try.underlying39 info3 rfl (by decide) (by omega) (.slice A0 ys.length c0) ys (wrap64 (x_2 + 1)) [.int .i64 (wrap64 (x_2 + 1))] (fun k => w1.heap.size ≤ k) (fun _ => False) rfl rfl ?aP (fun _ hk => hk.elim) ?aF ?aO ?aB ?aS ?aL ?_
    (case aP => exact rfl)
    (case aF => exact fun k hk => Nat.le_trans R5.only.size hk)
    (case aO => exact HR5.out)
    (case aB => exact R5.below)
    (case aS => exact R5.below.size)
    (case aL => have := HLIM.out; omega)
    intro v2 w7 ho hb hg hat
    obtain ⟨A2, c2, rfl⟩ := Kd.R_slice ho
    have R7 := R5.grown hb hg HR5.out.1 hlr
    have B7 := Aside0.mk (blk_grown B5.out hg (fun he => by have := HR5.out.1 g he.symm; omega))
    have HR7 := Aside0.mk ho
    clear R5 B5 HR5 ho hb hg hat hHeld
    refine hK.out _ _ ((blk_cell B7.out 16).trans rfl) (fun hHeld => ?_)
    clear hK K
    refine norm_ (a' := ?_) ?_ ?_
    rotate_left
    · show Act.put _ (some 19) _ = _
      simp only [Act.put, List.setIfInBounds_toArray, List.set_cons_zero, List.set_cons_succ, i64_w, i32_w]
      rfl
    refine pure_ (i := 7) (N := some 20) (v := ?_) (a' := ?_) #[true, true, true, true, true, true, true, true, false] rfl rfl (by kernel_rfl) (fun _ _ _ h => h) (Or.inl ⟨by rfl, ?_⟩) ?_ ?_
    rotate_left
    · intro w'
      go_simp
      with_reducible rfl
    rotate_left
    · simp only [Act.put, List.setIfInBounds_toArray, List.set_cons_zero, List.set_cons_succ, i64_w, i32_w]
      rfl
    refine last_ (i := 8) (N := none) #[true, true, true, true, true, true, true, true, true] rfl rfl (by kernel_rfl) (by decide) (fun K hK => ?_)
    have hfs := blk_frozen B7.out 16
    refine skip_ (w1 := ?_) (by rfl) rfl ?_ ?_
    rotate_left
    · go_simp
      rfl
    refine hK.out _ _ ?_
    clear hK K
    refine done_ (by kernel_rfl) ?_
    clear hHeld hfs
    go_wp2
    go_roundg kk
    case measure => omega
    case rel => exact ⟨_, _, ys ++ [wrap64 (x_2 + 1)], _, rfl, HS, R7.store l1 (.inl rfl) hr1 16 _, ⟨blk_put B7.out 16 _ rfl⟩, ⟨by have h6 := Kd.R_far (p := ⟨g, 16, none⟩) HR7.out (fun k hk => by show k ≠ g; omega) (.slice A2 (ys.length + 1) c2); simpa using h6⟩⟩

def headseg_ParseQuant.f (k : Nat) (a0_0 : Int) (l0_1 : List Int) (a1_0 : Int) (a1_1 : Int) (a1_2 : Int) (a1_3 : Int) (a1_4 : Int) (l1_5 : List (S89)) (a1_6 : Int) (a1_7 : Int) (a1_8 : Bool) (a1_9 : Bool) (a1_10 : Bool) (a1_11 : Bool) (a1_12 : Bool) (a1_13 : Bool) (a1_14 : Bool) (a1_15 : Bool) (l1_16 : List Int) (a1_17 : Int) (a1_18 : Int) : Option (Int × Int × Int × Int × Int × (List (S89)) × Int × Int × Bool × Bool × Bool × Bool × Bool × Bool × Bool × Bool × List Int × Int × Int × Int) :=
  (quantRead k l0_1).bind fun t => if l1_5.length < 8796093022208 then (if l1_16.length < 17592186044416 then some (if a0_0 = 65443 then (if t.1 = 0 then (if t.2.2.2 < (l0_1.length : Int) then (0, 0, 0, 0, 0, [], 0, 0, false, false, false, false, false, false, false, false, [], 0, 0, 9) else (a1_0, a1_1, a1_2, a1_3, a1_4, l1_5, a1_6, a1_7, a1_8, a1_9, a1_10, a1_11, a1_12, a1_13, a1_14, a1_15, t.2.2.1, t.2.1, a1_18, 0)) else (0, 0, 0, 0, 0, [], 0, 0, false, false, false, false, false, false, false, false, [], 0, 0, t.1)) else (0, 0, 0, 0, 0, [], 0, 0, false, false, false, false, false, false, false, false, [], 0, 0, 11)) else none) else none
theorem headseg_ParseQuant.mono : ∀ a0 a1 a2 a3 a4 a5 a6 a7 a8 a9 a10 a11 a12 a13 a14 a15 a16 a17 a18 a19 a20 k, LeO (headseg_ParseQuant.f k a0 a1 a2 a3 a4 a5 a6 a7 a8 a9 a10 a11 a12 a13 a14 a15 a16 a17 a18 a19 a20) (headseg_ParseQuant.f (k + 1) a0 a1 a2 a3 a4 a5 a6 a7 a8 a9 a10 a11 a12 a13 a14 a15 a16 a17 a18 a19 a20) := by
  intro a0 a1 a2 a3 a4 a5 a6 a7 a8 a9 a10 a11 a12 a13 a14 a15 a16 a17 a18 a19 a20 k
  exact LeO.bind (quantRead.mono k _) (fun _ => LeO.refl _)
set_option maxHeartbeats 8000000 in
set_option maxRecDepth 100000 in
theorem headseg_ParseQuant.calls (k : Nat) (a0_0 : Int) (A0_1 : Option Addr) (c0_1 : Nat) (l0_1 : List Int) (a1_0 : Int) (a1_1 : Int) (a1_2 : Int) (a1_3 : Int) (a1_4 : Int) (A1_5 : Option Addr) (c1_5 : Nat) (l1_5 : List (S89)) (a1_6 : Int) (a1_7 : Int) (a1_8 : Bool) (a1_9 : Bool) (a1_10 : Bool) (a1_11 : Bool) (a1_12 : Bool) (a1_13 : Bool) (a1_14 : Bool) (a1_15 : Bool) (A1_16 : Option Addr) (c1_16 : Nat) (l1_16 : List Int) (a1_17 : Int) (a1_18 : Int) (r1 : Int) (r2 : Int) (r3 : Int) (r4 : Int) (r5 : Int) (r6 : List (S89)) (r7 : Int) (r8 : Int) (r9 : Bool) (r10 : Bool) (r11 : Bool) (r12 : Bool) (r13 : Bool) (r14 : Bool) (r15 : Bool) (r16 : Bool) (r17 : List Int) (r18 : Int) (r19 : Int) (r20 : Int) (w : World) (hr0_1 : Kd.C (Kd.int .u8) w A0_1 l0_1.length l0_1) (hc0_1 : l0_1.length ≤ c0_1) (hr1_5 : Kd.C k89 w A1_5 l1_5.length l1_5) (hc1_5 : l1_5.length ≤ c1_5) (hr1_16 : Kd.C (Kd.int .i64) w A1_16 l1_16.length l1_16) (hc1_16 : l1_16.length ≤ c1_16) (h : headseg_ParseQuant.f k a0_0 l0_1 a1_0 a1_1 a1_2 a1_3 a1_4 l1_5 a1_6 a1_7 a1_8 a1_9 a1_10 a1_11 a1_12 a1_13 a1_14 a1_15 l1_16 a1_17 a1_18 = some (r1, r2, r3, r4, r5, r6, r7, r8, r9, r10, r11, r12, r13, r14, r15, r16, r17, r18, r19, r20)) :
    Calls Try.prog 30 #[.agg #[.int .i64 a0_0, .slice A0_1 l0_1.length c0_1], .agg #[.int .i64 a1_0, .int .i64 a1_1, .int .i64 a1_2, .int .i64 a1_3, .int .i64 a1_4, .slice A1_5 l1_5.length c1_5, .int .i64 a1_6, .int .i64 a1_7, .bool a1_8, .bool a1_9, .bool a1_10, .bool a1_11, .bool a1_12, .bool a1_13, .bool a1_14, .bool a1_15, .slice A1_16 l1_16.length c1_16, .int .i64 a1_17, .int .i64 a1_18]] w fun e w' => ∃ v5_ v16_ : Value, e = .returned (.tuple #[.agg #[.int .i64 r1, .int .i64 r2, .int .i64 r3, .int .i64 r4, .int .i64 r5, v5_, .int .i64 r7, .int .i64 r8, .bool r9, .bool r10, .bool r11, .bool r12, .bool r13, .bool r14, .bool r15, .bool r16, v16_, .int .i64 r18, .int .i64 r19], .int .i64 r20]) ∧ Kd.R k89 89 w' w.heap.size (fun _ => True) v5_ r6 ∧ Kd.R (Kd.int .i64) 3 w' w.heap.size (fun _ => True) v16_ r17 ∧ Below w.heap.size w w' := by
  cases ht : quantRead k l0_1 with
  | none => simp [headseg_ParseQuant.f, ht] at h
  | some t =>
  obtain ⟨e, dead, xs, pe⟩ := t
  simp only [headseg_ParseQuant.f, ht, Option.bind_some, Option.ite_none_right_eq_some, Option.some.injEq] at h
  obtain ⟨lm5, lm16, h⟩ := h
  have H := Aside0.mk h
  have HT := Aside0.mk ht
  have HR := Aside0.mk hr0_1
  have HC := Aside0.mk hc0_1
  have HR5 := Aside0.mk hr1_5
  have HR16 := Aside0.mk hr1_16
  have HC5 := Aside0.mk hc1_5
  have HC16 := Aside0.mk hc1_16
  have LM := Aside0.mk (And.intro lm5 lm16)
  clear h ht hr0_1 hc0_1 hr1_5 hr1_16 hc1_5 hc1_16 lm5 lm16
  have hmf : ∀ (fn : Fn) (first cap : Array Value) (w : World), (Instr.makeFunc fn first cap).run Try.prog w = .ok (.func fn first cap) w := fun _ _ _ _ => rfl
  have K00 := Aside0.mk (Bks.nil w)
  go_enter Try.func30, Try.ntmps30
  go_wp2_with (first
    | ((with_reducible refine gate_dst (N := 2) rfl ?_); refine box_event ?hg (N := 2) ?hd (cs := #[.int .i64 a0_0, .slice A0_1 l0_1.length c0_1]) (t := 26) ?hr ?_; (case hd => rfl); (case hg => rfl); (case hr => first | (go_simp; done) | (go_simp; rfl)); intro g2 hg W2 hbox hb; have K0 := Aside0.mk (K00.out.box (Nat.le_refl _) hg hbox hb); clear hg hbox hb K00)
    | ((with_reducible refine gate_dst (N := 3) rfl ?_); refine box_event ?hg (N := 3) ?hd (cs := #[.int .i64 a1_0, .int .i64 a1_1, .int .i64 a1_2, .int .i64 a1_3, .int .i64 a1_4, .slice A1_5 l1_5.length c1_5, .int .i64 a1_6, .int .i64 a1_7, .bool a1_8, .bool a1_9, .bool a1_10, .bool a1_11, .bool a1_12, .bool a1_13, .bool a1_14, .bool a1_15, .slice A1_16 l1_16.length c1_16, .int .i64 a1_17, .int .i64 a1_18]) (t := 55) ?hr ?_; (case hd => rfl); (case hg => rfl); (case hr => first | (go_simp; done) | (go_simp; rfl)); intro g3 hg W3 hbox hb; have K1 := Aside0.mk (K0.out.box (below_size K0.out.below) hg hbox hb); clear hg hbox hb K0)
    | ((with_reducible refine gate_dst (N := 4) rfl ?_); refine box_event ?hg (N := 4) ?hd (cs := #[.int .i64 0, .int .i64 0, .int .i64 0, .int .i64 0, .int .i64 0, .slice none 0 0, .int .i64 0, .int .i64 0, .bool false, .bool false, .bool false, .bool false, .bool false, .bool false, .bool false, .bool false, .slice none 0 0, .int .i64 0, .int .i64 0]) (t := 55) ?hr ?_; (case hd => rfl); (case hg => rfl); (case hr => first | (go_simp; done) | (go_simp; rfl)); intro g4 hg W4 hbox hb; have K2 := Aside0.mk (K1.out.box (below_size K1.out.below) hg hbox hb); clear hg hbox hb K1)
    | ((with_reducible refine gate_dst (N := 11) rfl ?_); refine load_ev rfl 55 (.tmp 3) rfl rfl (K2.out.get 1 rfl) Try.underlying55 rfl ?_)
    | (go_at_call 53; fail))
  refine (params_Clone.calls a1_0 a1_1 a1_2 a1_3 a1_4 A1_5 c1_5 l1_5 a1_6 a1_7 a1_8 a1_9 a1_10 a1_11 a1_12 a1_13 a1_14 a1_15 A1_16 c1_16 l1_16 a1_17 a1_18 _ (Kd.C_below HR5.out K2.out.below) HC5.out (Kd.C_below HR16.out K2.out.below) HC16.out (by have := LM.out.1; omega) (by have := LM.out.2; omega)).mono ?_
  rintro _ w3 ⟨v6, v5, v16, rfl, r6, r5, r16, b3⟩
  obtain ⟨Ao6, co6, rfl⟩ := Kd.R_slice r6
  obtain ⟨Ao5, co5, rfl⟩ := Kd.R_slice r5
  obtain ⟨Ao16, co16, rfl⟩ := Kd.R_slice r16
  have K3 := Aside0.mk (K2.out.call (below_size K2.out.below) b3)
  have R5 := Aside0.mk (Kd.R_lower r5 (below_size K2.out.below))
  clear K2 r5 r6 r16 b3
  go_wp2_with (first
    | ((with_reducible refine gate_dst (N := 6) rfl ?_); refine box_event ?hg (N := 6) ?hd (cs := #[.int .i64 0, .int .i64 0, .int .i64 0, .int .i64 0, .int .i64 0, .int .i64 0, .slice none 0 0]) (t := 67) ?hr ?_; (case hd => rfl); (case hg => rfl); (case hr => first | (go_simp; done) | (go_simp; rfl)); intro g6 hg W6 hbox hb; have K4 := Aside0.mk (K3.out.box (below_size K3.out.below) hg hbox hb); have R5a := Aside0.mk (Kd.R_below R5.out hb); clear hg hbox hb K3 R5)
    | ((with_reducible refine gate_dst (N := 7) rfl ?_); refine box_event ?hg (N := 7) ?hd (cs := #[.int .i64 0, .int .i64 0, .int .i64 0, .int .i64 0, .int .i64 0, .slice none 0 0, .int .i64 0, .int .i64 0, .bool false, .bool false, .bool false, .bool false, .bool false, .bool false, .bool false, .bool false, .slice none 0 0, .int .i64 0, .int .i64 0]) (t := 55) ?hr ?_; (case hd => rfl); (case hg => rfl); (case hr => first | (go_simp; done) | (go_simp; rfl)); intro g7 hg W7 hbox hb; have K5 := Aside0.mk (K4.out.box (below_size K4.out.below) hg hbox hb); have R5b := Aside0.mk (Kd.R_below R5a.out hb); clear hg hbox hb K4 R5a)
    | (refine store_ev rfl rfl 67 (.tmp 6) (.tmp 13) rfl rfl rfl (K5.out.get 1 rfl) rfl rfl (by first | (kernel_rfl) | (simp [Value.oneCell'])) ?_; intro W8 hs; have K6 := Aside0.mk (K5.out.stored 1 rfl hs); have R5c := Aside0.mk (row_stored R5b.out (K5.out.get 1 rfl) (by decide) hs); clear hs K5 R5b)
    | (refine store_ev rfl rfl 55 (.tmp 7) (.tmp 14) rfl rfl rfl (K6.out.get 0 rfl) rfl rfl (by first | (kernel_rfl) | (simp [Value.oneCell'])) ?_; intro W9 hs; have K7 := Aside0.mk (K6.out.stored 0 rfl hs); have R5d := Aside0.mk (row_stored R5c.out (K6.out.get 0 rfl) (by decide) hs); clear hs K6 R5c; have hst : W9.cell? ⟨g7, 16, none⟩ = some (.slice Ao16 l1_16.length co16) := K7.out.cell 0 rfl 16 rfl; have hz := blk_frozen (K7.out.get 0 rfl) 16; have K8 := Aside0.mk (K7.out.set 0 rfl 16 (.slice none 0 0) (cs' := #[.int .i64 a1_0, .int .i64 a1_1, .int .i64 a1_2, .int .i64 a1_3, .int .i64 a1_4, .slice Ao5 l1_5.length co5, .int .i64 a1_6, .int .i64 a1_7, .bool a1_8, .bool a1_9, .bool a1_10, .bool a1_11, .bool a1_12, .bool a1_13, .bool a1_14, .bool a1_15, .slice none 0 0, .int .i64 a1_17, .int .i64 a1_18]) rfl); have R5e := Aside0.mk (row_set R5d.out (K7.out.get 0 rfl) (by decide) 16 (.slice none 0 0)); clear K7 R5d)
    | ((with_reducible refine gate_dst (N := 16) rfl ?_); clear hst hz; generalize W9.setCell ⟨g7, 16, none⟩ (.slice none 0 0) = W10 at *; refine load_ev rfl 26 (.tmp 2) rfl rfl (K8.out.get 4 rfl) Try.underlying26 rfl ?_)
    | (go_at_call 47; fail))
  have hl7 : g7 < W10.heap.size := blk_lt (K8.out.get 0 rfl)
  have hg7 : w.heap.size ≤ g7 := K8.out.ge 0 _ rfl
  have hwW : w.heap.size ≤ W10.heap.size := below_size K8.out.below
  have hn47 : g4 ≠ g7 := K8.out.ne 2 0 _ _ (by decide) rfl rfl
  refine (parse.calls 54 (fun _ _ => by simp [go_sem]) #[.pointer (some ⟨g7, 0, none⟩)] (fun ra => #[.pointer (some ⟨ra, 0, none⟩), .pointer (some ⟨g7, 0, none⟩)]) (fun _ => by simp) (fun k => k = g7) a0_0 65443 A0_1 c0_1 l0_1 W10 (Kd.C_below HR.out K8.out.below) HC.out
    (fun p w2 => e = 0 ∧ p = pe ∧ ∃ v, w2.heap[g7]? = some (.cells #[.int .i64 a1_0, .int .i64 a1_1, .int .i64 a1_2, .int .i64 a1_3, .int .i64 a1_4, .slice Ao5 l1_5.length co5, .int .i64 a1_6, .int .i64 a1_7, .bool a1_8, .bool a1_9, .bool a1_10, .bool a1_11, .bool a1_12, .bool a1_13, .bool a1_14, .bool a1_15, v, .int .i64 dead, .int .i64 a1_18] 55 (0, 0)) ∧ Kd.R (Kd.int .i64) 3 w2 w.heap.size (fun k => W10.heap.size + 3 ≤ k) v xs)
    (fun e' w2 => e' = e ∧ e ≠ 0) (fun k hk => by omega) ?ok ?err ?cl).mono ?_
  case ok => exact fun p u1 u2 ⟨q1, q2, v, q3, q4⟩ ho => ⟨q1, q2, v, ho.blk q3 (by omega), Kd.R_step q4 (fun k hk hlt => ho.block k hlt (by omega))⟩
  case err => exact fun p u1 u2 q ho => q
  case cl => exact fun w1 hb1 hra hbr => (quant_closure k w w1 A0_1 c0_1 l0_1 HR.out HC.out (W10.heap.size + 2) g7 (by omega) (by omega) (by omega) (by omega) (by omega) (.int .i64 a1_0) (.int .i64 a1_1) (.int .i64 a1_2) (.int .i64 a1_3) (.int .i64 a1_4) (.slice Ao5 l1_5.length co5) (.int .i64 a1_6) (.int .i64 a1_7) (.bool a1_8) (.bool a1_9) (.bool a1_10) (.bool a1_11) (.bool a1_12) (.bool a1_13) (.bool a1_14) (.bool a1_15) (.int .i64 a1_17) (.int .i64 a1_18) (K8.out.below.trans (hb1.mono (by omega))) hbr (by rw [hb1.block g7 (by omega)]; exact K8.out.get 0 rfl) ⟨_, rfl⟩ e dead xs pe HT.out).mono (fun en w2 ⟨q1, q2⟩ => ⟨q1, q2.imp (fun ⟨p, p1, p2, p3, p4, v, p5, p6⟩ => ⟨p, p1, p2, p3, p4, v, p5, Kd.R_mono p6 (fun k hk => by omega)⟩) id⟩)
  rintro en w2 ⟨y, rfl, ho, hcase⟩
  have HB2 := Aside0.mk (K8.out.below.trans (ho.below (B := w.heap.size) (by omega) (fun k hk => by omega)))
  have BZ := Aside0.mk (ho.blk (K8.out.get 2 rfl) hn47)
  have hg4 : w.heap.size ≤ g4 := K8.out.ge 2 _ rfl
  have R5w := Aside0.mk (Kd.R_mono (ok' := fun _ => True) (Kd.R_step (Kd.R_types R5e.out (K8.out.get 0 rfl) (by decide)) (fun k hk hlt => ho.block k hlt hk.2)) (fun _ _ => trivial))
  have hcase' : (y ≠ 0 ∧ (r1, r2, r3, r4, r5, r6, r7, r8, r9, r10, r11, r12, r13, r14, r15, r16, r17, r18, r19, r20) = (0, 0, 0, 0, 0, [], 0, 0, false, false, false, false, false, false, false, false, [], 0, 0, y)) ∨ (y = 0 ∧ (r1, r2, r3, r4, r5, r6, r7, r8, r9, r10, r11, r12, r13, r14, r15, r16, r17, r18, r19, r20) = (a1_0, a1_1, a1_2, a1_3, a1_4, l1_5, a1_6, a1_7, a1_8, a1_9, a1_10, a1_11, a1_12, a1_13, a1_14, a1_15, xs, dead, a1_18, 0) ∧ ∃ v, w2.heap[g7]? = some (.cells #[.int .i64 a1_0, .int .i64 a1_1, .int .i64 a1_2, .int .i64 a1_3, .int .i64 a1_4, .slice Ao5 l1_5.length co5, .int .i64 a1_6, .int .i64 a1_7, .bool a1_8, .bool a1_9, .bool a1_10, .bool a1_11, .bool a1_12, .bool a1_13, .bool a1_14, .bool a1_15, v, .int .i64 dead, .int .i64 a1_18] 55 (0, 0)) ∧ Kd.R (Kd.int .i64) 3 w2 w.heap.size (fun k => W10.heap.size + 3 ≤ k) v xs) := by
    have h := H.out
    rcases hcase with ⟨hne, rfl, h11⟩ | ⟨heq, ⟨p, ⟨rfl, rfl, v, q3, q4⟩, hy⟩ | ⟨rfl, q2⟩⟩
    · rw [if_neg hne] at h
      exact .inl ⟨by decide, h.symm⟩
    · rw [if_pos heq, if_pos rfl] at h
      by_cases h8 : p < (l0_1.length : Int)
      · rw [if_pos h8] at h hy
        subst hy
        exact .inl ⟨by decide, h.symm⟩
      · rw [if_neg h8] at h hy
        exact .inr ⟨hy, h.symm, v, q3, q4⟩
    · rw [if_pos heq, if_neg q2] at h
      exact .inl ⟨q2, h.symm⟩
  have K8s := Aside0.mk hwW
  clear hcase ho H HT HR HC K8 R5e HR5 HR16 HC5 HC16 LM
  rcases hcase' with ⟨hy, hr⟩ | ⟨hy, hr, v, bg, hR⟩
  · have hy0 : (y == 0) = false := by simpa using hy
    have hy' : (y != 0) = true := by simpa using hy
    simp only [Prod.mk.injEq] at hr
    obtain ⟨rfl, rfl, rfl, rfl, rfl, rfl, rfl, rfl, rfl, rfl, rfl, rfl, rfl, rfl, rfl, rfl, rfl, rfl, rfl, rfl⟩ := hr
    go_wp2_with (refine store_ev rfl rfl 55 (.tmp 4) (.tmp 21) rfl rfl rfl BZ.out rfl rfl (by first | (kernel_rfl) | (simp [Value.oneCell'])) ?_; intro W8 hs; have HBx := hs.below _ _ hg4 HB2.out; have BZx := Aside0.mk hs.blk; clear hs; have RR := Aside0.mk HBx; clear HBx)
    refine bodyPost_ret (results_ct rfl _ _ g4 55 _ (0, 0) _ rfl BZx.out Try.underlying55 rfl (by kernel_rfl)) rfl ?_
    exact ⟨_, _, rfl, Kd.R_nil k89 89 _ _ _, Kd.R_nil (Kd.int .i64) 3 _ _ _, RR.out⟩
  · subst hy
    simp only [Prod.mk.injEq] at hr
    obtain ⟨rfl, rfl, rfl, rfl, rfl, rfl, rfl, rfl, rfl, rfl, rfl, rfl, rfl, rfl, rfl, rfl, rfl, rfl, rfl, rfl⟩ := hr
    obtain ⟨Ax, cx, rfl⟩ := Kd.R_slice hR
    have BG := Aside0.mk bg
    have HRx := Aside0.mk hR
    clear bg hR
    go_wp2_with (first
      | ((with_reducible refine gate_dst (N := 23) rfl ?_); refine load_ev rfl 55 (.tmp 7) rfl rfl BG.out Try.underlying55 rfl ?_)
      | (refine store_ev rfl rfl 55 (.tmp 4) (.tmp 23) rfl rfl rfl BZ.out rfl rfl (by first | (kernel_rfl) | (simp [Value.oneCell'])) ?_; intro W8 hs; have R5x := row_stored R5w.out BZ.out (by decide) hs; have RSx := row_stored (Kd.R_mono (ok' := fun _ => True) HRx.out (fun _ _ => trivial)) BZ.out (by decide) hs; have HBx := hs.below _ _ hg4 HB2.out; have BZx := Aside0.mk hs.blk; clear hs; have RR := Aside0.mk (And.intro R5x (And.intro RSx HBx)); clear R5x RSx HBx))
    refine bodyPost_ret (results_ct rfl _ _ g4 55 _ (0, 0) _ rfl BZx.out Try.underlying55 rfl (by kernel_rfl)) rfl ?_
    exact ⟨_, _, rfl, RR.out.1, RR.out.2.1, RR.out.2.2⟩
end Go.Proofs.Ytihfopblmjgfaaa.Q
