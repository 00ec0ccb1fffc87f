-- By a program of this session (wip/tools/mk.py), out of the kit's print of the translation; Lean checks it.
import Derived.Test.YtfihdlekeainpaaUp2
import Derived.Test.YtfihdlekeainpaaUp
import Derived.Test.YtfihdlekeainpaaShort
import Derived.Test.YtfihdlekeainpaaQ0
import Derived.Test.YtfihdlekeainpaaQ1
import Derived.Test.YtfihdlekeainpaaQ26
import Derived.Test.YtfihdlekeainpaaQ27
namespace Go.Proofs.Ytfihdlekeainpaa.Q
open Go.RowKit Go.Proofs.YtfihdlekeainpaaW.PrintWords Go.Proofs.YtfihdlekeainpaaW.PrintLast Go.Proofs.YtfihdlekeainpaaW.PrintMore
attribute [local go_sem] max2_int min2_int max_two min_two max_three min_three max_four min_four   -- for this text's walks alone
set_option linter.unusedVariables false
set_option linter.unusedSimpArgs false

attribute [local go_sem high] eqA23
/-! ### waveletref50_errors: function 28 -/
mutual
def waveletref50_errors.j0 : Nat → Bool → Int → Int → Int → Int → Int → Int → List (S51) → List (S42) → Int → Int → Int → Int → Int → Int → List (S51) → List (S42) → Option (Int)
 | 0, _, _, _, _, _, _, _, _, _, _, _, _, _, _, _, _, _ => none
 | k + 1, x25, x350000, x350001, x350002, x350003, x350004, x350005, x350006, x350007, x351000, x351001, x351002, x351003, x351004, x351005, x351006, x351007 => if x25 = true then (some 4) else (waveletref50_errors.l0 k 0 x350000 x350001 x350002 x350003 x350004 x350005 x350006 x350007 x351000 x351001 x351002 x351003 x351004 x351005 x351006 x351007)
def waveletref50_errors.l0 : Nat → Int → Int → Int → Int → Int → Int → Int → List (S51) → List (S42) → Int → Int → Int → Int → Int → Int → List (S51) → List (S42) → Option (Int)
 | 0, _, _, _, _, _, _, _, _, _, _, _, _, _, _, _, _, _ => none
 | k + 1, x5, x350000, x350001, x350002, x350003, x350004, x350005, x350006, x350007, x351000, x351001, x351002, x351003, x351004, x351005, x351006, x351007 => if x5 < (x350007.length : Int) then (if 0 ≤ x5 then ((waveletref02_Valid.f ((rd_T42 x350007 x5).f0.f0) ((rd_T42 x350007 x5).f0.f1) ((rd_T42 x350007 x5).f0.f2) ((rd_T42 x350007 x5).f0.f3) ((rd_T42 x350007 x5).f1)).bind fun t352 => (if t352 = true then (if x5 < (x351007.length : Int) then ((waveletref02_Valid.f ((rd_T42 x351007 x5).f0.f0) ((rd_T42 x351007 x5).f0.f1) ((rd_T42 x351007 x5).f0.f2) ((rd_T42 x351007 x5).f0.f3) ((rd_T42 x351007 x5).f1)).bind fun t354 => (if t354 = true then (if (!(((rd_T42 x350007 x5).f0.f0) == ((rd_T42 x351007 x5).f0.f0)) || (!(((rd_T42 x350007 x5).f0.f1) == ((rd_T42 x351007 x5).f0.f1)) || (!(((rd_T42 x350007 x5).f0.f2) == ((rd_T42 x351007 x5).f0.f2)) || (!(((rd_T42 x350007 x5).f0.f3) == ((rd_T42 x351007 x5).f0.f3)))))) = true then (some 1) else (waveletref50_errors.l0 k (wrap64 (x5 + 1)) x350000 x350001 x350002 x350003 x350004 x350005 x350006 x350007 x351000 x351001 x351002 x351003 x351004 x351005 x351006 x351007)) else (some 1))) else (none)) else (some 1))) else (none)) else (waveletref50_errors.l1 k 0 x350000 x350001 x350002 x350003 x350004 x350005 x350006 x350007 x351000 x351001 x351002 x351003 x351004 x351005 x351006 x351007)
def waveletref50_errors.l1 : Nat → Int → Int → Int → Int → Int → Int → Int → List (S51) → List (S42) → Int → Int → Int → Int → Int → Int → List (S51) → List (S42) → Option (Int)
 | 0, _, _, _, _, _, _, _, _, _, _, _, _, _, _, _, _, _ => none
 | k + 1, x6, x350000, x350001, x350002, x350003, x350004, x350005, x350006, x350007, x351000, x351001, x351002, x351003, x351004, x351005, x351006, x351007 => if x6 < (x350007.length : Int) then (if 0 ≤ x6 then ((waveletref02_Bounded.f k ((rd_T42 x350007 x6).f0.f0) ((rd_T42 x350007 x6).f0.f1) ((rd_T42 x350007 x6).f0.f2) ((rd_T42 x350007 x6).f0.f3) ((rd_T42 x350007 x6).f1) 65536).bind fun t358 => (if t358 = true then (if x6 < (x351007.length : Int) then ((waveletref02_Bounded.f k ((rd_T42 x351007 x6).f0.f0) ((rd_T42 x351007 x6).f0.f1) ((rd_T42 x351007 x6).f0.f2) ((rd_T42 x351007 x6).f0.f3) ((rd_T42 x351007 x6).f1) 65536).bind fun t360 => (if t360 = true then (waveletref50_errors.l1 k (wrap64 (x6 + 1)) x350000 x350001 x350002 x350003 x350004 x350005 x350006 x350007 x351000 x351001 x351002 x351003 x351004 x351005 x351006 x351007) else (some 2))) else (none)) else (some 2))) else (none)) else (some 0)
end
def waveletref50_errors.f (k : Nat) (a0_0 : Int) (a0_1 : Int) (a0_2 : Int) (a0_3 : Int) (a0_4 : Int) (a0_5 : Int) (l0_6 : List (S51)) (l0_7 : List (S42)) (a1_0 : Int) (a1_1 : Int) (a1_2 : Int) (a1_3 : Int) (a1_4 : Int) (a1_5 : Int) (l1_6 : List (S51)) (l1_7 : List (S42)) : Option (Int) := if (l0_7.length : Int) = (l1_7.length : Int) then (if (l0_7.length : Int) < 1 then (waveletref50_errors.j0 k true a0_0 a0_1 a0_2 a0_3 a0_4 a0_5 l0_6 l0_7 a1_0 a1_1 a1_2 a1_3 a1_4 a1_5 l1_6 l1_7) else (waveletref50_errors.j0 k (decide ((l0_7.length : Int) > 4)) a0_0 a0_1 a0_2 a0_3 a0_4 a0_5 l0_6 l0_7 a1_0 a1_1 a1_2 a1_3 a1_4 a1_5 l1_6 l1_7)) else (waveletref50_errors.j0 k true a0_0 a0_1 a0_2 a0_3 a0_4 a0_5 l0_6 l0_7 a1_0 a1_1 a1_2 a1_3 a1_4 a1_5 l1_6 l1_7)
theorem waveletref50_errors.mono_l : ∀ k, (∀ y0 y1 y2 y3 y4 y5 y6 y7 y8 y9 y10 y11 y12 y13 y14 y15 y16, LeO (waveletref50_errors.j0 k y0 y1 y2 y3 y4 y5 y6 y7 y8 y9 y10 y11 y12 y13 y14 y15 y16) (waveletref50_errors.j0 (k + 1) y0 y1 y2 y3 y4 y5 y6 y7 y8 y9 y10 y11 y12 y13 y14 y15 y16)) ∧ (∀ y0 y1 y2 y3 y4 y5 y6 y7 y8 y9 y10 y11 y12 y13 y14 y15 y16, LeO (waveletref50_errors.l0 k y0 y1 y2 y3 y4 y5 y6 y7 y8 y9 y10 y11 y12 y13 y14 y15 y16) (waveletref50_errors.l0 (k + 1) y0 y1 y2 y3 y4 y5 y6 y7 y8 y9 y10 y11 y12 y13 y14 y15 y16)) ∧ (∀ y0 y1 y2 y3 y4 y5 y6 y7 y8 y9 y10 y11 y12 y13 y14 y15 y16, LeO (waveletref50_errors.l1 k y0 y1 y2 y3 y4 y5 y6 y7 y8 y9 y10 y11 y12 y13 y14 y15 y16) (waveletref50_errors.l1 (k + 1) y0 y1 y2 y3 y4 y5 y6 y7 y8 y9 y10 y11 y12 y13 y14 y15 y16))
 | 0 => ⟨fun _ _ _ _ _ _ _ _ _ _ _ _ _ _ _ _ _ r h => by simp [waveletref50_errors.j0] at h, fun _ _ _ _ _ _ _ _ _ _ _ _ _ _ _ _ _ r h => by simp [waveletref50_errors.l0] at h, fun _ _ _ _ _ _ _ _ _ _ _ _ _ _ _ _ _ r h => by simp [waveletref50_errors.l1] at h⟩
 | k + 1 => by
  obtain ⟨ih0, ih1, ih2⟩ := waveletref50_errors.mono_l k
  refine ⟨?_, ?_, ?_⟩
  ·intro y0 y1 y2 y3 y4 y5 y6 y7 y8 y9 y10 y11 y12 y13 y14 y15 y16
   unfold waveletref50_errors.j0
   repeat' first
   | (with_reducible exact ih0 _ _ _ _ _ _ _ _ _ _ _ _ _ _ _ _ _)
   | (with_reducible exact ih1 _ _ _ _ _ _ _ _ _ _ _ _ _ _ _ _ _)
   | (with_reducible exact ih2 _ _ _ _ _ _ _ _ _ _ _ _ _ _ _ _ _)
   | (with_reducible exact waveletref02_Bounded.mono _ _ _ _ _ _ _)
   | (with_reducible exact LeO.refl _)
   | (with_reducible exact LeO.none _)
   | (with_reducible refine LeO.ite ?_ ?_)
   | (with_reducible refine LeO.bind ?_ (fun _ => ?_))
   | exact ih0 _ _ _ _ _ _ _ _ _ _ _ _ _ _ _ _ _
   | exact ih1 _ _ _ _ _ _ _ _ _ _ _ _ _ _ _ _ _
   | exact ih2 _ _ _ _ _ _ _ _ _ _ _ _ _ _ _ _ _
   | exact waveletref02_Bounded.mono _ _ _ _ _ _ _
   | exact LeO.none _
   | refine LeO.ite ?_ ?_
   | refine LeO.bind ?_ (fun _ => ?_)
  ·intro y0 y1 y2 y3 y4 y5 y6 y7 y8 y9 y10 y11 y12 y13 y14 y15 y16
   unfold waveletref50_errors.l0
   repeat' first
   | (with_reducible exact ih0 _ _ _ _ _ _ _ _ _ _ _ _ _ _ _ _ _)
   | (with_reducible exact ih1 _ _ _ _ _ _ _ _ _ _ _ _ _ _ _ _ _)
   | (with_reducible exact ih2 _ _ _ _ _ _ _ _ _ _ _ _ _ _ _ _ _)
   | (with_reducible exact waveletref02_Bounded.mono _ _ _ _ _ _ _)
   | (with_reducible exact LeO.refl _)
   | (with_reducible exact LeO.none _)
   | (with_reducible refine LeO.ite ?_ ?_)
   | (with_reducible refine LeO.bind ?_ (fun _ => ?_))
   | exact ih0 _ _ _ _ _ _ _ _ _ _ _ _ _ _ _ _ _
   | exact ih1 _ _ _ _ _ _ _ _ _ _ _ _ _ _ _ _ _
   | exact ih2 _ _ _ _ _ _ _ _ _ _ _ _ _ _ _ _ _
   | exact waveletref02_Bounded.mono _ _ _ _ _ _ _
   | exact LeO.none _
   | refine LeO.ite ?_ ?_
   | refine LeO.bind ?_ (fun _ => ?_)
  ·intro y0 y1 y2 y3 y4 y5 y6 y7 y8 y9 y10 y11 y12 y13 y14 y15 y16
   unfold waveletref50_errors.l1
   repeat' first
   | (with_reducible exact ih0 _ _ _ _ _ _ _ _ _ _ _ _ _ _ _ _ _)
   | (with_reducible exact ih1 _ _ _ _ _ _ _ _ _ _ _ _ _ _ _ _ _)
   | (with_reducible exact ih2 _ _ _ _ _ _ _ _ _ _ _ _ _ _ _ _ _)
   | (with_reducible exact waveletref02_Bounded.mono _ _ _ _ _ _ _)
   | (with_reducible exact LeO.refl _)
   | (with_reducible exact LeO.none _)
   | (with_reducible refine LeO.ite ?_ ?_)
   | (with_reducible refine LeO.bind ?_ (fun _ => ?_))
   | exact ih0 _ _ _ _ _ _ _ _ _ _ _ _ _ _ _ _ _
   | exact ih1 _ _ _ _ _ _ _ _ _ _ _ _ _ _ _ _ _
   | exact ih2 _ _ _ _ _ _ _ _ _ _ _ _ _ _ _ _ _
   | exact waveletref02_Bounded.mono _ _ _ _ _ _ _
   | exact LeO.none _
   | refine LeO.ite ?_ ?_
   | refine LeO.bind ?_ (fun _ => ?_)
theorem waveletref50_errors.mono : ∀ a0 a1 a2 a3 a4 a5 a6 a7 a8 a9 a10 a11 a12 a13 a14 a15 k, LeO (waveletref50_errors.f k a0 a1 a2 a3 a4 a5 a6 a7 a8 a9 a10 a11 a12 a13 a14 a15) (waveletref50_errors.f (k + 1) a0 a1 a2 a3 a4 a5 a6 a7 a8 a9 a10 a11 a12 a13 a14 a15) := by
 intro a0 a1 a2 a3 a4 a5 a6 a7 a8 a9 a10 a11 a12 a13 a14 a15 k
 obtain ⟨ih0, ih1, ih2⟩ := waveletref50_errors.mono_l k
 unfold waveletref50_errors.f
 repeat' first
   | (with_reducible exact ih0 _ _ _ _ _ _ _ _ _ _ _ _ _ _ _ _ _)
   | (with_reducible exact ih1 _ _ _ _ _ _ _ _ _ _ _ _ _ _ _ _ _)
   | (with_reducible exact ih2 _ _ _ _ _ _ _ _ _ _ _ _ _ _ _ _ _)
   | (with_reducible exact waveletref02_Bounded.mono _ _ _ _ _ _ _)
   | (with_reducible exact LeO.refl _)
   | (with_reducible exact LeO.none _)
   | (with_reducible refine LeO.ite ?_ ?_)
   | (with_reducible refine LeO.bind ?_ (fun _ => ?_))
   | exact ih0 _ _ _ _ _ _ _ _ _ _ _ _ _ _ _ _ _
   | exact ih1 _ _ _ _ _ _ _ _ _ _ _ _ _ _ _ _ _
   | exact ih2 _ _ _ _ _ _ _ _ _ _ _ _ _ _ _ _ _
   | exact waveletref02_Bounded.mono _ _ _ _ _ _ _
   | exact LeO.none _
   | refine LeO.ite ?_ ?_
   | refine LeO.bind ?_ (fun _ => ?_)
def waveletref50_errors.T6 : Bool × List (List Nat × List Nat) := (true, [([], []), ([0], [0]), ([], []), ([1, 2], [1, 2]), ([3], [3]), ([4], [4]), ([5], [5]), ([6, 5], [6]), ([7], [7]), ([8, 7], [7, 8]), ([7], [7]), ([9, 10, 7], [7, 9, 10]), ([11, 7], [7, 11]), ([12, 7, 7], [7, 12]), ([13, 7], [7, 13]), ([7, 14], [7, 14]), ([15, 13], [15]), ([16], [16]), ([17, 16], [16, 17]), ([16], [16]), ([18, 19, 16], [16, 18, 19]), ([20, 16], [16, 20]), ([21, 16], [16, 21]), ([16], [16]), ([23, 16], [16, 23]), ([16], [16]), ([24, 25, 16], [16, 24, 25]), ([26, 16], [16, 26]), ([27, 16], [16, 27]), ([22, 28, 16], [16, 22, 28]), ([16, 29], [16, 29])])
def waveletref50_errors.B6 : List Nat := [0, 1, 0, 7, 15, 31, 63, 127, 255, 511, 255, 2047, 4095, 8191, 16383, 32767, 65535, 131071, 262143, 131071, 1048575, 2097151, 4194303, 131071, 8519679, 131071, 58851327, 125960191, 260177919, 536870911, 1073741823]
theorem waveletref50_errors.tab6 : rtab .any (opsOf Try.f28 6) = waveletref50_errors.T6 := by kernel_rfl
theorem waveletref50_errors.bits6 : waitsOk waveletref50_errors.T6.2 waveletref50_errors.B6 = true := by kernel_rfl
set_option maxHeartbeats 8000000 in
set_option maxRecDepth 100000 in
theorem waveletref50_errors.calls (k : Nat) (a0_0 : Int) (a0_1 : Int) (a0_2 : Int) (a0_3 : Int) (a0_4 : Int) (a0_5 : Int) (A0_6 : Option Addr) (c0_6 : Nat) (l0_6 : List (S51)) (A0_7 : Option Addr) (c0_7 : Nat) (l0_7 : List (S42)) (a1_0 : Int) (a1_1 : Int) (a1_2 : Int) (a1_3 : Int) (a1_4 : Int) (a1_5 : Int) (A1_6 : Option Addr) (c1_6 : Nat) (l1_6 : List (S51)) (A1_7 : Option Addr) (c1_7 : Nat) (l1_7 : List (S42)) (r : Int) (w : World) (hr0_6 : Kd.C k51 w A0_6 l0_6.length l0_6) (hc0_6 : l0_6.length ≤ c0_6) (hr0_7 : Kd.C k42 w A0_7 l0_7.length l0_7) (hc0_7 : l0_7.length ≤ c0_7) (hr1_6 : Kd.C k51 w A1_6 l1_6.length l1_6) (hc1_6 : l1_6.length ≤ c1_6) (hr1_7 : Kd.C k42 w A1_7 l1_7.length l1_7) (hc1_7 : l1_7.length ≤ c1_7) (h : waveletref50_errors.f k a0_0 a0_1 a0_2 a0_3 a0_4 a0_5 l0_6 l0_7 a1_0 a1_1 a1_2 a1_3 a1_4 a1_5 l1_6 l1_7 = some r) :
  Calls Try.prog 28 #[.agg #[.int .i64 a0_0, .int .i64 a0_1, .int .i64 a0_2, .int .i64 a0_3, .int .i64 a0_4, .int .i64 a0_5, .slice A0_6 l0_6.length c0_6, .slice A0_7 l0_7.length c0_7], .agg #[.int .i64 a1_0, .int .i64 a1_1, .int .i64 a1_2, .int .i64 a1_3, .int .i64 a1_4, .int .i64 a1_5, .slice A1_6 l1_6.length c1_6, .slice A1_7 l1_7.length c1_7]] w fun e w' => e = .returned (.int .i64 r) ∧ Below w.heap.size w w' := by
 have hu29 := Try.underlying29
 have hu42 := Try.underlying42
 have hu23 := Try.underlying23
 have HR0_6 := Aside0.mk hr0_6
 have HC0_6 := Aside0.mk hc0_6
 clear hr0_6 hc0_6
 have HR0_7 := Aside0.mk hr0_7
 have HC0_7 := Aside0.mk hc0_7
 clear hr0_7 hc0_7
 have HR1_6 := Aside0.mk hr1_6
 have HC1_6 := Aside0.mk hc1_6
 clear hr1_6 hc1_6
 have HR1_7 := Aside0.mk hr1_7
 have HC1_7 := Aside0.mk hc1_7
 clear hr1_7 hc1_7
 have HB := Aside0.mk (Below.refl w.heap.size w)
 have H : (if (l0_7.length : Int) = (l1_7.length : Int) then (if (l0_7.length : Int) < 1 then (waveletref50_errors.j0 k true a0_0 a0_1 a0_2 a0_3 a0_4 a0_5 l0_6 l0_7 a1_0 a1_1 a1_2 a1_3 a1_4 a1_5 l1_6 l1_7) else (waveletref50_errors.j0 k (decide ((l0_7.length : Int) > 4)) a0_0 a0_1 a0_2 a0_3 a0_4 a0_5 l0_6 l0_7 a1_0 a1_1 a1_2 a1_3 a1_4 a1_5 l1_6 l1_7)) else (waveletref50_errors.j0 k true a0_0 a0_1 a0_2 a0_3 a0_4 a0_5 l0_6 l0_7 a1_0 a1_1 a1_2 a1_3 a1_4 a1_5 l1_6 l1_7)) = some r := h
 clear h
 have HC3 := Aside0.mk H
 clear H
 go_enter Try.func28, Try.ntmps28
 go_upto_region 1 with (first | ((with_reducible refine gate_dst (N := 2) rfl ?_); (try (refine gate_guard (by rfl) ?_; dsimp only)); refine box_event ?hg (N := 2) ?hd (cs := #[.int .i64 a0_0, .int .i64 a0_1, .int .i64 a0_2, .int .i64 a0_3, .int .i64 a0_4, .int .i64 a0_5, .slice A0_6 l0_6.length c0_6, .slice A0_7 l0_7.length c0_7]) (t := 29) ?hr ?_; (case hd => rfl); (case hg => rfl); (case hr => first | (go_simp; done) | (go_simp; rfl)); intro gb349 hg w4 hbox hb; have BK349 := Aside0.mk (hbox); have GW349 := Aside0.mk ((by rw [hg]; exact (below_size HB.out) : w.heap.size ≤ gb349)); have GE349 := Aside0.mk ((by rw [hg]; exact (below_size HB.out) : w.heap.size ≤ gb349)); replace HB := Aside0.mk (below_step HB.out hb); clear hb hbox hg) | ((with_reducible refine gate_dst (N := 3) rfl ?_); (try (refine gate_guard (by rfl) ?_; dsimp only)); refine box_event ?hg (N := 3) ?hd (cs := #[.int .i64 a1_0, .int .i64 a1_1, .int .i64 a1_2, .int .i64 a1_3, .int .i64 a1_4, .int .i64 a1_5, .slice A1_6 l1_6.length c1_6, .slice A1_7 l1_7.length c1_7]) (t := 29) ?hr ?_; (case hd => rfl); (case hg => rfl); (case hr => first | (go_simp; done) | (go_simp; rfl)); intro gb350 hg w5 hbox hb; have BK350 := Aside0.mk (hbox); have GW350 := Aside0.mk ((by rw [hg]; exact (below_size HB.out) : w.heap.size ≤ gb350)); have GE350 := Aside0.mk ((by rw [hg]; exact (below_size HB.out) : w.heap.size ≤ gb350)); replace HB := Aside0.mk (below_step HB.out hb); have NB349_350 := Aside0.mk ((by rw [hg]; exact Nat.ne_of_lt (blk_lt (g := gb349) (o := .cells #[.int .i64 a0_0, .int .i64 a0_1, .int .i64 a0_2, .int .i64 a0_3, .int .i64 a0_4, .int .i64 a0_5, .slice A0_6 l0_6.length c0_6, .slice A0_7 l0_7.length c0_7] 29 (0, 0)) BK349.out) : gb349 ≠ gb350)); have NB350_349 := Aside0.mk ((by rw [hg]; exact Nat.ne_of_gt (blk_lt (g := gb349) (o := .cells #[.int .i64 a0_0, .int .i64 a0_1, .int .i64 a0_2, .int .i64 a0_3, .int .i64 a0_4, .int .i64 a0_5, .slice A0_6 l0_6.length c0_6, .slice A0_7 l0_7.length c0_7] 29 (0, 0)) BK349.out) : gb350 ≠ gb349)); replace BK349 := Aside0.mk (blk_below BK349.out hb); clear hb hbox hg))
 (try simp only [PUT])
 go_cut [25] (fun v25 wc => ∃ (kq : Nat) (x25_2 : Bool), v25 = .bool x25_2 ∧ Aside0 (waveletref50_errors.j0 kq x25_2 a0_0 a0_1 a0_2 a0_3 a0_4 a0_5 l0_6 l0_7 a1_0 a1_1 a1_2 a1_3 a1_4 a1_5 l1_6 l1_7 = some r) ∧ Aside0 (kq ≤ k) ∧ Aside0 (wc.heap[gb349]? = some (.cells #[.int .i64 a0_0, .int .i64 a0_1, .int .i64 a0_2, .int .i64 a0_3, .int .i64 a0_4, .int .i64 a0_5, (.slice A0_6 l0_6.length c0_6), (.slice A0_7 l0_7.length c0_7)] 29 (0, 0))) ∧ Aside0 (wc.heap[gb350]? = some (.cells #[.int .i64 a1_0, .int .i64 a1_1, .int .i64 a1_2, .int .i64 a1_3, .int .i64 a1_4, .int .i64 a1_5, (.slice A1_6 l1_6.length c1_6), (.slice A1_7 l1_7.length c1_7)] 29 (0, 0))) ∧ Aside0 (Below w.heap.size w wc))
 case first =>
  have H := HC3.out
  clear HC3
  by_cases c6 : (l0_7.length : Int) = (l1_7.length : Int)
  ·rw [if_pos c6] at H
   have c6b0 : ((l0_7.length : Int) == (l1_7.length : Int)) = true := beq_iff_eq.mpr c6
   have c6b1 : ((l0_7.length : Int) != (l1_7.length : Int)) = false := bne_eq_false_iff_eq.mpr c6
   have c6b2 : (l0_7.length == l1_7.length) = true := by first | simpa using c6 | (simp at c6 ⊢; omega)
   clear c6
   (first | rw [c6b0] | (simp only [i64_w, i32_w]; rw [c6b0]) | skip)
   by_cases c7 : (l0_7.length : Int) < 1
   ·rw [if_pos c7] at H
    have c7b0 : decide ((l0_7.length : Int) < 1) = true := decide_eq_true c7
    have c7b1 : decide (l0_7.length < 1) = true := decide_eq_true (by omega)
    clear c7
    have H' := Aside0.mk H
    clear H
    have hnb8 := NB349_350.out
    have hnc8 := NB350_349.out
    obtain ⟨hcz9_0, hcz9_1, hcz9_2, hcz9_3, hcz9_4, hcz9_5, hcz9_6, hcz9_7, hfz9_0, hfz9_1, hfz9_2, hfz9_3, hfz9_4, hfz9_5, hfz9_6, hfz9_7⟩ := blk_all8 BK349.out
    obtain ⟨hcz10_0, hcz10_1, hcz10_2, hcz10_3, hcz10_4, hcz10_5, hcz10_6, hcz10_7, hfz10_0, hfz10_1, hfz10_2, hfz10_3, hfz10_4, hfz10_5, hfz10_6, hfz10_7⟩ := blk_all8 BK350.out
    go_wp2
    go_meet
    case rel => exact ⟨_, (true), (by first | rfl | (simp; done) | (simp [*]; done)), H', ⟨by first | omega | exact Nat.le_refl _⟩, ⟨BK349.out⟩, ⟨BK350.out⟩, ⟨HB.out⟩⟩
   ·rw [if_neg c7] at H
    have c7b0 : decide ((l0_7.length : Int) < 1) = false := decide_eq_false c7
    have c7b1 : decide (l0_7.length < 1) = false := decide_eq_false (by omega)
    clear c7
    have H' := Aside0.mk H
    clear H
    have hnb11 := NB349_350.out
    have hnc11 := NB350_349.out
    obtain ⟨hcz12_0, hcz12_1, hcz12_2, hcz12_3, hcz12_4, hcz12_5, hcz12_6, hcz12_7, hfz12_0, hfz12_1, hfz12_2, hfz12_3, hfz12_4, hfz12_5, hfz12_6, hfz12_7⟩ := blk_all8 BK349.out
    obtain ⟨hcz13_0, hcz13_1, hcz13_2, hcz13_3, hcz13_4, hcz13_5, hcz13_6, hcz13_7, hfz13_0, hfz13_1, hfz13_2, hfz13_3, hfz13_4, hfz13_5, hfz13_6, hfz13_7⟩ := blk_all8 BK350.out
    go_wp2
    go_meet
    case rel => exact ⟨_, (decide ((l0_7.length : Int) > 4)), (by first | rfl | (simp; done) | (simp [*]; done)), H', ⟨by first | omega | exact Nat.le_refl _⟩, ⟨BK349.out⟩, ⟨BK350.out⟩, ⟨HB.out⟩⟩
  ·rw [if_neg c6] at H
   have c6b0 : ((l0_7.length : Int) == (l1_7.length : Int)) = false := beq_eq_false_iff_ne.mpr c6
   have c6b1 : ((l0_7.length : Int) != (l1_7.length : Int)) = true := bne_iff_ne.mpr c6
   have c6b2 : (l0_7.length == l1_7.length) = false := by first | simpa using c6 | (simp at c6 ⊢; omega)
   (first | rw [c6b0] | (simp only [i64_w, i32_w]; rw [c6b0]) | skip)
   have H' := Aside0.mk H
   clear H
   have hnb14 := NB349_350.out
   have hnc14 := NB350_349.out
   obtain ⟨hcz15_0, hcz15_1, hcz15_2, hcz15_3, hcz15_4, hcz15_5, hcz15_6, hcz15_7, hfz15_0, hfz15_1, hfz15_2, hfz15_3, hfz15_4, hfz15_5, hfz15_6, hfz15_7⟩ := blk_all8 BK349.out
   obtain ⟨hcz16_0, hcz16_1, hcz16_2, hcz16_3, hcz16_4, hcz16_5, hcz16_6, hcz16_7, hfz16_0, hfz16_1, hfz16_2, hfz16_3, hfz16_4, hfz16_5, hfz16_6, hfz16_7⟩ := blk_all8 BK350.out
   go_wp2
   go_meet
   case rel => exact ⟨_, (true), (by first | rfl | (simp; done) | (simp [*]; done)), H', ⟨by first | omega | exact Nat.le_refl _⟩, ⟨BK349.out⟩, ⟨BK350.out⟩, ⟨HB.out⟩⟩
 case rest =>
  clear HC3
  try clear c1; try clear c2; try clear p2; try clear c6; try clear c6b0; try clear c6b1; try clear c6b2; try clear c7; try clear c7b0; try clear c7b1; try clear c8; try clear c11; try clear c14; try clear hcz10_0; try clear hcz10_1; try clear hcz10_2; try clear hcz10_3; try clear hcz10_4; try clear hcz10_5; try clear hcz10_6; try clear hcz10_7; try clear hcz12_0; try clear hcz12_1; try clear hcz12_2; try clear hcz12_3; try clear hcz12_4; try clear hcz12_5; try clear hcz12_6; try clear hcz12_7; try clear hcz13_0; try clear hcz13_1; try clear hcz13_2; try clear hcz13_3; try clear hcz13_4; try clear hcz13_5; try clear hcz13_6; try clear hcz13_7; try clear hcz15_0; try clear hcz15_1; try clear hcz15_2; try clear hcz15_3; try clear hcz15_4; try clear hcz15_5; try clear hcz15_6; try clear hcz15_7; try clear hcz16_0; try clear hcz16_1; try clear hcz16_2; try clear hcz16_3; try clear hcz16_4; try clear hcz16_5; try clear hcz16_6; try clear hcz16_7; try clear hcz9_0; try clear hcz9_1; try clear hcz9_2; try clear hcz9_3; try clear hcz9_4; try clear hcz9_5; try clear hcz9_6; try clear hcz9_7; try clear hfz10_0; try clear hfz10_1; try clear hfz10_2; try clear hfz10_3; try clear hfz10_4; try clear hfz10_5; try clear hfz10_6; try clear hfz10_7; try clear hfz12_0; try clear hfz12_1; try clear hfz12_2; try clear hfz12_3; try clear hfz12_4; try clear hfz12_5; try clear hfz12_6; try clear hfz12_7; try clear hfz13_0; try clear hfz13_1; try clear hfz13_2; try clear hfz13_3; try clear hfz13_4; try clear hfz13_5; try clear hfz13_6; try clear hfz13_7; try clear hfz15_0; try clear hfz15_1; try clear hfz15_2; try clear hfz15_3; try clear hfz15_4; try clear hfz15_5; try clear hfz15_6; try clear hfz15_7; try clear hfz16_0; try clear hfz16_1; try clear hfz16_2; try clear hfz16_3; try clear hfz16_4; try clear hfz16_5; try clear hfz16_6; try clear hfz16_7; try clear hfz9_0; try clear hfz9_1; try clear hfz9_2; try clear hfz9_3; try clear hfz9_4; try clear hfz9_5; try clear hfz9_6; try clear hfz9_7
  obtain ⟨kq, x25_2, rfl, HA, HJ2, BK349, BK350, HB⟩ := hcut
  cases kq with
  | zero => exact absurd HA.out (by simp [waveletref50_errors.j0])
  | succ kj2 =>
   have H := HA.out
   clear HA
   simp only [waveletref50_errors.j0] at H
   by_cases c17 : x25_2 = true
   ·subst c17
    rw [if_pos rfl] at H
    obtain rfl := Option.some.inj H
    go_wp2
    go_ret
    exact ⟨by first | rfl | (simp [errW_none, errW_some] <;> rfl) | (simp [*, errW_none, errW_some] <;> rfl), HB.out⟩
   ·replace c17 := Bool.eq_false_iff.mpr c17
    subst c17
    rw [if_neg (show ¬ (false = true) by decide)] at H
    have H' := Aside0.mk H
    clear H
    go_wp2
    go_loopg [5] kj2 (fun kq v5 w' => ∃ (x5_2 : Int), v5 = .int .i64 x5_2 ∧ Aside0 (waveletref50_errors.l0 kq x5_2 a0_0 a0_1 a0_2 a0_3 a0_4 a0_5 l0_6 l0_7 a1_0 a1_1 a1_2 a1_3 a1_4 a1_5 l1_6 l1_7 = some r) ∧ Aside0 (kq ≤ kj2) ∧ Aside0 (w'.heap[gb349]? = some (.cells #[.int .i64 a0_0, .int .i64 a0_1, .int .i64 a0_2, .int .i64 a0_3, .int .i64 a0_4, .int .i64 a0_5, (.slice A0_6 l0_6.length c0_6), (.slice A0_7 l0_7.length c0_7)] 29 (0, 0))) ∧ Aside0 (w'.heap[gb350]? = some (.cells #[.int .i64 a1_0, .int .i64 a1_1, .int .i64 a1_2, .int .i64 a1_3, .int .i64 a1_4, .int .i64 a1_5, (.slice A1_6 l1_6.length c1_6), (.slice A1_7 l1_7.length c1_7)] 29 (0, 0))) ∧ Aside0 (Below w.heap.size w w'))
    case atStart => exact ⟨(0), (by first | rfl | (simp; done) | (simp [*]; done)), H', ⟨Nat.le_refl _⟩, ⟨BK349.out⟩, ⟨BK350.out⟩, ⟨HB.out⟩⟩
    case round =>
     clear H'
     try clear c1; try clear c2; try clear p2; try clear c6; try clear c6b0; try clear c6b1; try clear c6b2; try clear c7; try clear c7b0; try clear c7b1; try clear c8; try clear c11; try clear c14; try clear c17; try clear hcz10_0; try clear hcz10_1; try clear hcz10_2; try clear hcz10_3; try clear hcz10_4; try clear hcz10_5; try clear hcz10_6; try clear hcz10_7; try clear hcz12_0; try clear hcz12_1; try clear hcz12_2; try clear hcz12_3; try clear hcz12_4; try clear hcz12_5; try clear hcz12_6; try clear hcz12_7; try clear hcz13_0; try clear hcz13_1; try clear hcz13_2; try clear hcz13_3; try clear hcz13_4; try clear hcz13_5; try clear hcz13_6; try clear hcz13_7; try clear hcz15_0; try clear hcz15_1; try clear hcz15_2; try clear hcz15_3; try clear hcz15_4; try clear hcz15_5; try clear hcz15_6; try clear hcz15_7; try clear hcz16_0; try clear hcz16_1; try clear hcz16_2; try clear hcz16_3; try clear hcz16_4; try clear hcz16_5; try clear hcz16_6; try clear hcz16_7; try clear hcz9_0; try clear hcz9_1; try clear hcz9_2; try clear hcz9_3; try clear hcz9_4; try clear hcz9_5; try clear hcz9_6; try clear hcz9_7; try clear hfz10_0; try clear hfz10_1; try clear hfz10_2; try clear hfz10_3; try clear hfz10_4; try clear hfz10_5; try clear hfz10_6; try clear hfz10_7; try clear hfz12_0; try clear hfz12_1; try clear hfz12_2; try clear hfz12_3; try clear hfz12_4; try clear hfz12_5; try clear hfz12_6; try clear hfz12_7; try clear hfz13_0; try clear hfz13_1; try clear hfz13_2; try clear hfz13_3; try clear hfz13_4; try clear hfz13_5; try clear hfz13_6; try clear hfz13_7; try clear hfz15_0; try clear hfz15_1; try clear hfz15_2; try clear hfz15_3; try clear hfz15_4; try clear hfz15_5; try clear hfz15_6; try clear hfz15_7; try clear hfz16_0; try clear hfz16_1; try clear hfz16_2; try clear hfz16_3; try clear hfz16_4; try clear hfz16_5; try clear hfz16_6; try clear hfz16_7; try clear hfz9_0; try clear hfz9_1; try clear hfz9_2; try clear hfz9_3; try clear hfz9_4; try clear hfz9_5; try clear hfz9_6; try clear hfz9_7; try clear p2
     obtain ⟨x5_2, rfl, HA, HK2, BK349, BK350, HB⟩ := hrel
     cases gk with
     | zero => exact absurd HA.out (by simp [waveletref50_errors.l0])
     | succ k2 =>
      have H := HA.out
      clear HA
      simp only [waveletref50_errors.l0] at H
      by_cases c18 : x5_2 < (l0_7.length : Int)
      ·rw [if_pos c18] at H
       have c18b0 : decide (x5_2 < (l0_7.length : Int)) = true := decide_eq_true c18
       clear c18
       by_cases c19 : 0 ≤ x5_2
       ·rw [if_pos c19] at H
        have c19b0 : decide (0 ≤ x5_2) = true := decide_eq_true c19
        clear c19
        replace H := Option.bind_eq_some_iff.mp H
        obtain ⟨t352, A200, H⟩ := H
        replace H : (if t352 = true then (if x5_2 < (l1_7.length : Int) then ((waveletref02_Valid.f ((rd_T42 l1_7 x5_2).f0.f0) ((rd_T42 l1_7 x5_2).f0.f1) ((rd_T42 l1_7 x5_2).f0.f2) ((rd_T42 l1_7 x5_2).f0.f3) ((rd_T42 l1_7 x5_2).f1)).bind fun t354 => (if t354 = true then (if (!(((rd_T42 l0_7 x5_2).f0.f0) == ((rd_T42 l1_7 x5_2).f0.f0)) || (!(((rd_T42 l0_7 x5_2).f0.f1) == ((rd_T42 l1_7 x5_2).f0.f1)) || (!(((rd_T42 l0_7 x5_2).f0.f2) == ((rd_T42 l1_7 x5_2).f0.f2)) || (!(((rd_T42 l0_7 x5_2).f0.f3) == ((rd_T42 l1_7 x5_2).f0.f3)))))) = true then (some 1) else (waveletref50_errors.l0 k2 (wrap64 (x5_2 + 1)) a0_0 a0_1 a0_2 a0_3 a0_4 a0_5 l0_6 l0_7 a1_0 a1_1 a1_2 a1_3 a1_4 a1_5 l1_6 l1_7)) else (some 1))) else (none)) else (some 1)) = some r := H
        have A20 := Aside0.mk A200
        clear A200
        by_cases c21 : t352 = true
        ·subst c21
         rw [if_pos rfl] at H
         by_cases c22 : x5_2 < (l1_7.length : Int)
         ·rw [if_pos c22] at H
          have c22b0 : decide (x5_2 < (l1_7.length : Int)) = true := decide_eq_true c22
          clear c22
          replace H := Option.bind_eq_some_iff.mp H
          obtain ⟨t354, A230, H⟩ := H
          replace H : (if t354 = true then (if (!(((rd_T42 l0_7 x5_2).f0.f0) == ((rd_T42 l1_7 x5_2).f0.f0)) || (!(((rd_T42 l0_7 x5_2).f0.f1) == ((rd_T42 l1_7 x5_2).f0.f1)) || (!(((rd_T42 l0_7 x5_2).f0.f2) == ((rd_T42 l1_7 x5_2).f0.f2)) || (!(((rd_T42 l0_7 x5_2).f0.f3) == ((rd_T42 l1_7 x5_2).f0.f3)))))) = true then (some 1) else (waveletref50_errors.l0 k2 (wrap64 (x5_2 + 1)) a0_0 a0_1 a0_2 a0_3 a0_4 a0_5 l0_6 l0_7 a1_0 a1_1 a1_2 a1_3 a1_4 a1_5 l1_6 l1_7)) else (some 1)) = some r := H
          have A23 := Aside0.mk A230
          clear A230
          by_cases c24 : t354 = true
          ·subst c24
           rw [if_pos rfl] at H
           by_cases c25 : (!(((rd_T42 l0_7 x5_2).f0.f0) == ((rd_T42 l1_7 x5_2).f0.f0)) || (!(((rd_T42 l0_7 x5_2).f0.f1) == ((rd_T42 l1_7 x5_2).f0.f1)) || (!(((rd_T42 l0_7 x5_2).f0.f2) == ((rd_T42 l1_7 x5_2).f0.f2)) || (!(((rd_T42 l0_7 x5_2).f0.f3) == ((rd_T42 l1_7 x5_2).f0.f3)))))) = true
           ·rw [if_pos c25] at H
            have c25b0 : (!(((rd_T42 l0_7 x5_2).f0.f0) == ((rd_T42 l1_7 x5_2).f0.f0)) || (!(((rd_T42 l0_7 x5_2).f0.f1) == ((rd_T42 l1_7 x5_2).f0.f1)) || (!(((rd_T42 l0_7 x5_2).f0.f2) == ((rd_T42 l1_7 x5_2).f0.f2)) || (!(((rd_T42 l0_7 x5_2).f0.f3) == ((rd_T42 l1_7 x5_2).f0.f3)))))) = true := c25
            clear c25
            obtain rfl := Option.some.inj H
            have hnb26 := NB349_350.out
            have hnc26 := NB350_349.out
            obtain ⟨hcz27_0, hcz27_1, hcz27_2, hcz27_3, hcz27_4, hcz27_5, hcz27_6, hcz27_7, hfz27_0, hfz27_1, hfz27_2, hfz27_3, hfz27_4, hfz27_5, hfz27_6, hfz27_7⟩ := blk_all8 BK349.out
            try go_wp2
            replace BK349 := Aside0.mk (blk_drew BK349.out)
            replace BK350 := Aside0.mk (blk_drew BK350.out)
            replace HB := Aside0.mk (below_drew1 HB.out)
            have p351 : 0 ≤ (x5_2 : Int) := of_decide_eq_true (by first | (with_reducible assumption) | assumption)
            have q351 : x5_2 < (l0_7.length : Int) := of_decide_eq_true (by first | (with_reducible assumption) | assumption)
            obtain ⟨ad351, A351_4, c351_4, e351, hx351_0, hx351_1, hx351_2, hx351_3, hx351_4, hl351_4, hi351_4⟩ := at_T42 HR0_7.out x5_2 p351 q351
            have hw351_4 := hx351_4
            have hw351_3 := hx351_3
            have hw351_2 := hx351_2
            have hw351_1 := hx351_1
            have hw351_0 := hx351_0
            cases e351
            replace hx351_0 := hc HB hx351_0
            replace hx351_1 := hc HB hx351_1
            replace hx351_2 := hc HB hx351_2
            replace hx351_3 := hc HB hx351_3
            replace hx351_4 := hc HB hx351_4
            have HR351_4 := Aside0.mk hi351_4
            have HC351_4 := Aside0.mk hl351_4
            clear hi351_4 hl351_4
            replace p351 := eq_true p351
            replace q351 := eq_true q351
            have p353 : 0 ≤ (x5_2 : Int) := of_decide_eq_true (by first | (with_reducible assumption) | assumption)
            have q353 : x5_2 < (l1_7.length : Int) := of_decide_eq_true (by first | (with_reducible assumption) | assumption)
            obtain ⟨ad353, A353_4, c353_4, e353, hx353_0, hx353_1, hx353_2, hx353_3, hx353_4, hl353_4, hi353_4⟩ := at_T42 HR1_7.out x5_2 p353 q353
            have hw353_4 := hx353_4
            have hw353_3 := hx353_3
            have hw353_2 := hx353_2
            have hw353_1 := hx353_1
            have hw353_0 := hx353_0
            cases e353
            replace hx353_0 := hc HB hx353_0
            replace hx353_1 := hc HB hx353_1
            replace hx353_2 := hc HB hx353_2
            replace hx353_3 := hc HB hx353_3
            replace hx353_4 := hc HB hx353_4
            have HR353_4 := Aside0.mk hi353_4
            have HC353_4 := Aside0.mk hl353_4
            clear hi353_4 hl353_4
            replace p353 := eq_true p353
            replace q353 := eq_true q353
            have p355 : 0 ≤ (x5_2 : Int) := of_decide_eq_true (by first | (with_reducible assumption) | assumption)
            have q355 : x5_2 < (l0_7.length : Int) := of_decide_eq_true (by first | (with_reducible assumption) | assumption)
            obtain ⟨ad355, A355_4, c355_4, e355, hx355_0, hx355_1, hx355_2, hx355_3, hx355_4, hl355_4, hi355_4⟩ := at_T42 HR0_7.out x5_2 p355 q355
            have hw355_4 := hx355_4
            have hw355_3 := hx355_3
            have hw355_2 := hx355_2
            have hw355_1 := hx355_1
            have hw355_0 := hx355_0
            obtain rfl : ad351 = ad355 := (by injection e355)
            replace hx355_0 := hc HB hx355_0
            replace hx355_1 := hc HB hx355_1
            replace hx355_2 := hc HB hx355_2
            replace hx355_3 := hc HB hx355_3
            replace hx355_4 := hc HB hx355_4
            have HR355_4 := Aside0.mk hi355_4
            have HC355_4 := Aside0.mk hl355_4
            clear hi355_4 hl355_4
            replace p355 := eq_true p355
            replace q355 := eq_true q355
            have p356 : 0 ≤ (x5_2 : Int) := of_decide_eq_true (by first | (with_reducible assumption) | assumption)
            have q356 : x5_2 < (l1_7.length : Int) := of_decide_eq_true (by first | (with_reducible assumption) | assumption)
            obtain ⟨ad356, A356_4, c356_4, e356, hx356_0, hx356_1, hx356_2, hx356_3, hx356_4, hl356_4, hi356_4⟩ := at_T42 HR1_7.out x5_2 p356 q356
            have hw356_4 := hx356_4
            have hw356_3 := hx356_3
            have hw356_2 := hx356_2
            have hw356_1 := hx356_1
            have hw356_0 := hx356_0
            obtain rfl : ad353 = ad356 := (by injection e356)
            replace hx356_0 := hc HB hx356_0
            replace hx356_1 := hc HB hx356_1
            replace hx356_2 := hc HB hx356_2
            replace hx356_3 := hc HB hx356_3
            replace hx356_4 := hc HB hx356_4
            have HR356_4 := Aside0.mk hi356_4
            have HC356_4 := Aside0.mk hl356_4
            clear hi356_4 hl356_4
            replace p356 := eq_true p356
            replace q356 := eq_true q356
            refine start_ (n := 31) (S := fun w' => ce w' gb349 0 (.int .i64 a0_0) ∧ ce w' gb349 1 (.int .i64 a0_1) ∧ ce w' gb349 2 (.int .i64 a0_2) ∧ ce w' gb349 3 (.int .i64 a0_3) ∧ ce w' gb349 4 (.int .i64 a0_4) ∧ ce w' gb349 5 (.int .i64 a0_5) ∧ ce w' gb349 6 (.slice A0_6 l0_6.length c0_6) ∧ ce w' gb349 7 (.slice (some ad351) l0_7.length c0_7) ∧ ce w' gb350 0 (.int .i64 a1_0) ∧ ce w' gb350 1 (.int .i64 a1_1) ∧ ce w' gb350 2 (.int .i64 a1_2) ∧ ce w' gb350 3 (.int .i64 a1_3) ∧ ce w' gb350 4 (.int .i64 a1_4) ∧ ce w' gb350 5 (.int .i64 a1_5) ∧ ce w' gb350 6 (.slice A1_6 l1_6.length c1_6) ∧ ce w' gb350 7 (.slice (some ad353) l1_7.length c1_7) ∧ w'.cell? (ad351.add ((x5_2).toNat * 5)) = some (.int .i64 ((rd_T42 l0_7 x5_2).f0.f0)) ∧ w'.cell? ⟨(ad351.add ((x5_2).toNat * 5)).block, (ad351.add ((x5_2).toNat * 5)).off + 1, none⟩ = some (.int .i64 ((rd_T42 l0_7 x5_2).f0.f1)) ∧ w'.cell? ⟨(ad351.add ((x5_2).toNat * 5)).block, (ad351.add ((x5_2).toNat * 5)).off + 2, none⟩ = some (.int .i64 ((rd_T42 l0_7 x5_2).f0.f2)) ∧ w'.cell? ⟨(ad351.add ((x5_2).toNat * 5)).block, (ad351.add ((x5_2).toNat * 5)).off + 3, none⟩ = some (.int .i64 ((rd_T42 l0_7 x5_2).f0.f3)) ∧ w'.cell? ⟨(ad351.add ((x5_2).toNat * 5)).block, (ad351.add ((x5_2).toNat * 5)).off + 4, none⟩ = some (.slice A351_4 ((rd_T42 l0_7 x5_2).f1).length c351_4) ∧ w'.cell? (ad353.add ((x5_2).toNat * 5)) = some (.int .i64 ((rd_T42 l1_7 x5_2).f0.f0)) ∧ w'.cell? ⟨(ad353.add ((x5_2).toNat * 5)).block, (ad353.add ((x5_2).toNat * 5)).off + 1, none⟩ = some (.int .i64 ((rd_T42 l1_7 x5_2).f0.f1)) ∧ w'.cell? ⟨(ad353.add ((x5_2).toNat * 5)).block, (ad353.add ((x5_2).toNat * 5)).off + 2, none⟩ = some (.int .i64 ((rd_T42 l1_7 x5_2).f0.f2)) ∧ w'.cell? ⟨(ad353.add ((x5_2).toNat * 5)).block, (ad353.add ((x5_2).toNat * 5)).off + 3, none⟩ = some (.int .i64 ((rd_T42 l1_7 x5_2).f0.f3)) ∧ w'.cell? ⟨(ad353.add ((x5_2).toNat * 5)).block, (ad353.add ((x5_2).toNat * 5)).off + 4, none⟩ = some (.slice A353_4 ((rd_T42 l1_7 x5_2).f1).length c353_4) ∧ w'.cell? (ad351.add ((x5_2).toNat * 5)) = some (.int .i64 ((rd_T42 l0_7 x5_2).f0.f0)) ∧ w'.cell? ⟨(ad351.add ((x5_2).toNat * 5)).block, (ad351.add ((x5_2).toNat * 5)).off + 1, none⟩ = some (.int .i64 ((rd_T42 l0_7 x5_2).f0.f1)) ∧ w'.cell? ⟨(ad351.add ((x5_2).toNat * 5)).block, (ad351.add ((x5_2).toNat * 5)).off + 2, none⟩ = some (.int .i64 ((rd_T42 l0_7 x5_2).f0.f2)) ∧ w'.cell? ⟨(ad351.add ((x5_2).toNat * 5)).block, (ad351.add ((x5_2).toNat * 5)).off + 3, none⟩ = some (.int .i64 ((rd_T42 l0_7 x5_2).f0.f3)) ∧ w'.cell? ⟨(ad351.add ((x5_2).toNat * 5)).block, (ad351.add ((x5_2).toNat * 5)).off + 4, none⟩ = some (.slice A355_4 ((rd_T42 l0_7 x5_2).f1).length c355_4) ∧ w'.cell? (ad353.add ((x5_2).toNat * 5)) = some (.int .i64 ((rd_T42 l1_7 x5_2).f0.f0)) ∧ w'.cell? ⟨(ad353.add ((x5_2).toNat * 5)).block, (ad353.add ((x5_2).toNat * 5)).off + 1, none⟩ = some (.int .i64 ((rd_T42 l1_7 x5_2).f0.f1)) ∧ w'.cell? ⟨(ad353.add ((x5_2).toNat * 5)).block, (ad353.add ((x5_2).toNat * 5)).off + 2, none⟩ = some (.int .i64 ((rd_T42 l1_7 x5_2).f0.f2)) ∧ w'.cell? ⟨(ad353.add ((x5_2).toNat * 5)).block, (ad353.add ((x5_2).toNat * 5)).off + 3, none⟩ = some (.int .i64 ((rd_T42 l1_7 x5_2).f0.f3)) ∧ w'.cell? ⟨(ad353.add ((x5_2).toNat * 5)).block, (ad353.add ((x5_2).toNat * 5)).off + 4, none⟩ = some (.slice A356_4 ((rd_T42 l1_7 x5_2).f1).length c356_4)) (ds := []) (MK [0, 31]) (by kernel_rfl) rfl rfl ⟨bc BK349 0, bc BK349 1, bc BK349 2, bc BK349 3, bc BK349 4, bc BK349 5, bc BK349 6, bc BK349 7, bc BK350 0, bc BK350 1, bc BK350 2, bc BK350 3, bc BK350 4, bc BK350 5, bc BK350 6, bc BK350 7, (hc HB hw351_0), (hc HB hw351_1), (hc HB hw351_2), (hc HB hw351_3), (hc HB hw351_4), (hc HB hw353_0), (hc HB hw353_1), (hc HB hw353_2), (hc HB hw353_3), (hc HB hw353_4), (hc HB hw355_0), (hc HB hw355_1), (hc HB hw355_2), (hc HB hw355_3), (hc HB hw355_4), (hc HB hw356_0), (hc HB hw356_1), (hc HB hw356_2), (hc HB hw356_3), (hc HB hw356_4)⟩ (fun hHeld => ?_); refine with_tabW waveletref50_errors.tab6 waveletref50_errors.bits6 (fun HT_ HW_ => ?_)
            generalize wr.drew = w28 at BK349 BK350 HB HR351_4 HR353_4 HR355_4 HR356_4 hx351_0 hx351_1 hx351_2 hx351_3 hx351_4 hx353_0 hx353_1 hx353_2 hx353_3 hx353_4 hx355_0 hx355_1 hx355_2 hx355_3 hx355_4 hx356_0 hx356_1 hx356_2 hx356_3 hx356_4 hHeld ⊢
            refine puX 0 33 (MK [1, 30]) HT_.out ?_
            refine puX 2 35 (MK [1, 1, 1, 28]) HT_.out ?_
            refine taX 1 34 (MK [3, 28]) HT_.out HW_.out hHeld ?_
            refine puX 3 36 (MK [4, 27]) HT_.out ?_
            refine taX 4 37 (MK [5, 26]) HT_.out HW_.out hHeld ?_
            refine onX 5 38 (MK [6, 25]) HT_.out (fun K hK => ?_)
            refine goes_ Try.func40 (by kernel_rfl) rfl #[.agg #[.int .i64 ((rd_T42 l0_7 x5_2).f0.f0), .int .i64 ((rd_T42 l0_7 x5_2).f0.f1), .int .i64 ((rd_T42 l0_7 x5_2).f0.f2), .int .i64 ((rd_T42 l0_7 x5_2).f0.f3), .slice A351_4 ((rd_T42 l0_7 x5_2).f1).length c351_4]] (by rfl) rfl rfl upL ?_
            with_reducible refine (waveletref02_Valid.calls ((rd_T42 l0_7 x5_2).f0.f0) ((rd_T42 l0_7 x5_2).f0.f1) ((rd_T42 l0_7 x5_2).f0.f2) ((rd_T42 l0_7 x5_2).f0.f3) _ _ ((rd_T42 l0_7 x5_2).f1) true _ ?side1 ?side2 A20.out).mono ?_
            (case side1 => repeat (first | exact (Kd.C_below HR351_4.out HB.out) | (with_reducible refine Kd.C_alloc ?_ _) | (with_reducible refine Kd.C_drewN ?_ _) | (with_reducible refine Kd.C_drew ?_)))
            (case side2 => exact HC351_4.out)
            rintro e w29 ⟨rfl, hb⟩
            refine ⟨_, rfl, ?_⟩
            replace BK349 := Aside0.mk (blk_below BK349.out hb)
            replace BK350 := Aside0.mk (blk_below BK350.out hb)
            replace HB := Aside0.mk (below_step HB.out hb)
            (try clear hb); (try clear hb2); (try clear hk); (try clear hi)
            refine hK.out _ _ ⟨bc BK349 0, bc BK349 1, bc BK349 2, bc BK349 3, bc BK349 4, bc BK349 5, bc BK349 6, bc BK349 7, bc BK350 0, bc BK350 1, bc BK350 2, bc BK350 3, bc BK350 4, bc BK350 5, bc BK350 6, bc BK350 7, (hc HB hw351_0), (hc HB hw351_1), (hc HB hw351_2), (hc HB hw351_3), (hc HB hw351_4), (hc HB hw353_0), (hc HB hw353_1), (hc HB hw353_2), (hc HB hw353_3), (hc HB hw353_4), (hc HB hw355_0), (hc HB hw355_1), (hc HB hw355_2), (hc HB hw355_3), (hc HB hw355_4), (hc HB hw356_0), (hc HB hw356_1), (hc HB hw356_2), (hc HB hw356_3), (hc HB hw356_4)⟩ (fun hHeld => ?_)
            clear hK K
            refine noX ?_
            refine puX 6 39 (MK [7, 24]) HT_.out ?_
            refine puX 7 40 (MK [8, 23]) HT_.out ?_
            refine puX 8 41 (MK [9, 22]) HT_.out ?_
            refine puX 10 43 (MK [9, 1, 1, 20]) HT_.out ?_
            refine taX 9 42 (MK [11, 20]) HT_.out HW_.out hHeld ?_
            refine puX 11 44 (MK [12, 19]) HT_.out ?_
            refine taX 12 45 (MK [13, 18]) HT_.out HW_.out hHeld ?_
            refine onX 13 46 (MK [14, 17]) HT_.out (fun K hK => ?_)
            refine goes_ Try.func40 (by kernel_rfl) rfl #[.agg #[.int .i64 ((rd_T42 l1_7 x5_2).f0.f0), .int .i64 ((rd_T42 l1_7 x5_2).f0.f1), .int .i64 ((rd_T42 l1_7 x5_2).f0.f2), .int .i64 ((rd_T42 l1_7 x5_2).f0.f3), .slice A353_4 ((rd_T42 l1_7 x5_2).f1).length c353_4]] (by rfl) rfl rfl upL ?_
            with_reducible refine (waveletref02_Valid.calls ((rd_T42 l1_7 x5_2).f0.f0) ((rd_T42 l1_7 x5_2).f0.f1) ((rd_T42 l1_7 x5_2).f0.f2) ((rd_T42 l1_7 x5_2).f0.f3) _ _ ((rd_T42 l1_7 x5_2).f1) true _ ?side1 ?side2 A23.out).mono ?_
            (case side1 => repeat (first | exact (Kd.C_below HR353_4.out HB.out) | (with_reducible refine Kd.C_alloc ?_ _) | (with_reducible refine Kd.C_drewN ?_ _) | (with_reducible refine Kd.C_drew ?_)))
            (case side2 => exact HC353_4.out)
            rintro e w30 ⟨rfl, hb⟩
            refine ⟨_, rfl, ?_⟩
            replace BK349 := Aside0.mk (blk_below BK349.out hb)
            replace BK350 := Aside0.mk (blk_below BK350.out hb)
            replace HB := Aside0.mk (below_step HB.out hb)
            (try clear hb); (try clear hb2); (try clear hk); (try clear hi)
            refine hK.out _ _ ⟨bc BK349 0, bc BK349 1, bc BK349 2, bc BK349 3, bc BK349 4, bc BK349 5, bc BK349 6, bc BK349 7, bc BK350 0, bc BK350 1, bc BK350 2, bc BK350 3, bc BK350 4, bc BK350 5, bc BK350 6, bc BK350 7, (hc HB hw351_0), (hc HB hw351_1), (hc HB hw351_2), (hc HB hw351_3), (hc HB hw351_4), (hc HB hw353_0), (hc HB hw353_1), (hc HB hw353_2), (hc HB hw353_3), (hc HB hw353_4), (hc HB hw355_0), (hc HB hw355_1), (hc HB hw355_2), (hc HB hw355_3), (hc HB hw355_4), (hc HB hw356_0), (hc HB hw356_1), (hc HB hw356_2), (hc HB hw356_3), (hc HB hw356_4)⟩ (fun hHeld => ?_)
            clear hK K
            refine noX ?_
            refine puX 14 47 (MK [15, 16]) HT_.out ?_
            refine puX 15 48 (MK [16, 15]) HT_.out ?_
            refine puX 16 49 (MK [17, 14]) HT_.out ?_
            refine puX 17 50 (MK [18, 13]) HT_.out ?_
            refine puX 19 52 (MK [18, 1, 1, 11]) HT_.out ?_
            refine puX 23 56 (MK [18, 1, 1, 3, 1, 7]) HT_.out ?_
            refine puX 25 58 (MK [18, 1, 1, 3, 1, 1, 1, 5]) HT_.out ?_
            refine taX 18 51 (MK [20, 3, 1, 1, 1, 5]) HT_.out HW_.out hHeld ?_
            refine puX 20 53 (MK [21, 2, 1, 1, 1, 5]) HT_.out ?_
            refine puX 21 54 (MK [22, 1, 1, 1, 1, 5]) HT_.out ?_
            refine taX 22 55 (MK [24, 1, 1, 5]) HT_.out HW_.out hHeld ?_
            refine taX 24 57 (MK [26, 5]) HT_.out HW_.out hHeld ?_
            refine puX 26 59 (MK [27, 4]) HT_.out ?_
            refine puX 27 60 (MK [28, 3]) HT_.out ?_
            refine taX 28 61 (MK [29, 2]) HT_.out HW_.out hHeld ?_
            refine puX 29 62 (MK [30, 1]) HT_.out ?_
            refine puX 30 63 (MK [31]) HT_.out ?_
            refine done_ (done_of HT_.out (by kernel_rfl)) ?_
            try go_wp2
            go_ret
            exact ⟨by first | rfl | (simp [errW_none, errW_some] <;> rfl) | (simp [*, errW_none, errW_some] <;> rfl), HB.out⟩
           ·rw [if_neg c25] at H
            have c25b0 : (!(((rd_T42 l0_7 x5_2).f0.f0) == ((rd_T42 l1_7 x5_2).f0.f0)) || (!(((rd_T42 l0_7 x5_2).f0.f1) == ((rd_T42 l1_7 x5_2).f0.f1)) || (!(((rd_T42 l0_7 x5_2).f0.f2) == ((rd_T42 l1_7 x5_2).f0.f2)) || (!(((rd_T42 l0_7 x5_2).f0.f3) == ((rd_T42 l1_7 x5_2).f0.f3)))))) = false := by simpa using c25
            clear c25
            have H' := Aside0.mk H
            clear H
            have hnb31 := NB349_350.out
            have hnc31 := NB350_349.out
            obtain ⟨hcz32_0, hcz32_1, hcz32_2, hcz32_3, hcz32_4, hcz32_5, hcz32_6, hcz32_7, hfz32_0, hfz32_1, hfz32_2, hfz32_3, hfz32_4, hfz32_5, hfz32_6, hfz32_7⟩ := blk_all8 BK349.out
            try go_wp2
            replace BK349 := Aside0.mk (blk_drew BK349.out)
            replace BK350 := Aside0.mk (blk_drew BK350.out)
            replace HB := Aside0.mk (below_drew1 HB.out)
            have p351 : 0 ≤ (x5_2 : Int) := of_decide_eq_true (by first | (with_reducible assumption) | assumption)
            have q351 : x5_2 < (l0_7.length : Int) := of_decide_eq_true (by first | (with_reducible assumption) | assumption)
            obtain ⟨ad351, A351_4, c351_4, e351, hx351_0, hx351_1, hx351_2, hx351_3, hx351_4, hl351_4, hi351_4⟩ := at_T42 HR0_7.out x5_2 p351 q351
            have hw351_4 := hx351_4
            have hw351_3 := hx351_3
            have hw351_2 := hx351_2
            have hw351_1 := hx351_1
            have hw351_0 := hx351_0
            cases e351
            replace hx351_0 := hc HB hx351_0
            replace hx351_1 := hc HB hx351_1
            replace hx351_2 := hc HB hx351_2
            replace hx351_3 := hc HB hx351_3
            replace hx351_4 := hc HB hx351_4
            have HR351_4 := Aside0.mk hi351_4
            have HC351_4 := Aside0.mk hl351_4
            clear hi351_4 hl351_4
            replace p351 := eq_true p351
            replace q351 := eq_true q351
            have p353 : 0 ≤ (x5_2 : Int) := of_decide_eq_true (by first | (with_reducible assumption) | assumption)
            have q353 : x5_2 < (l1_7.length : Int) := of_decide_eq_true (by first | (with_reducible assumption) | assumption)
            obtain ⟨ad353, A353_4, c353_4, e353, hx353_0, hx353_1, hx353_2, hx353_3, hx353_4, hl353_4, hi353_4⟩ := at_T42 HR1_7.out x5_2 p353 q353
            have hw353_4 := hx353_4
            have hw353_3 := hx353_3
            have hw353_2 := hx353_2
            have hw353_1 := hx353_1
            have hw353_0 := hx353_0
            cases e353
            replace hx353_0 := hc HB hx353_0
            replace hx353_1 := hc HB hx353_1
            replace hx353_2 := hc HB hx353_2
            replace hx353_3 := hc HB hx353_3
            replace hx353_4 := hc HB hx353_4
            have HR353_4 := Aside0.mk hi353_4
            have HC353_4 := Aside0.mk hl353_4
            clear hi353_4 hl353_4
            replace p353 := eq_true p353
            replace q353 := eq_true q353
            have p355 : 0 ≤ (x5_2 : Int) := of_decide_eq_true (by first | (with_reducible assumption) | assumption)
            have q355 : x5_2 < (l0_7.length : Int) := of_decide_eq_true (by first | (with_reducible assumption) | assumption)
            obtain ⟨ad355, A355_4, c355_4, e355, hx355_0, hx355_1, hx355_2, hx355_3, hx355_4, hl355_4, hi355_4⟩ := at_T42 HR0_7.out x5_2 p355 q355
            have hw355_4 := hx355_4
            have hw355_3 := hx355_3
            have hw355_2 := hx355_2
            have hw355_1 := hx355_1
            have hw355_0 := hx355_0
            obtain rfl : ad351 = ad355 := (by injection e355)
            replace hx355_0 := hc HB hx355_0
            replace hx355_1 := hc HB hx355_1
            replace hx355_2 := hc HB hx355_2
            replace hx355_3 := hc HB hx355_3
            replace hx355_4 := hc HB hx355_4
            have HR355_4 := Aside0.mk hi355_4
            have HC355_4 := Aside0.mk hl355_4
            clear hi355_4 hl355_4
            replace p355 := eq_true p355
            replace q355 := eq_true q355
            have p356 : 0 ≤ (x5_2 : Int) := of_decide_eq_true (by first | (with_reducible assumption) | assumption)
            have q356 : x5_2 < (l1_7.length : Int) := of_decide_eq_true (by first | (with_reducible assumption) | assumption)
            obtain ⟨ad356, A356_4, c356_4, e356, hx356_0, hx356_1, hx356_2, hx356_3, hx356_4, hl356_4, hi356_4⟩ := at_T42 HR1_7.out x5_2 p356 q356
            have hw356_4 := hx356_4
            have hw356_3 := hx356_3
            have hw356_2 := hx356_2
            have hw356_1 := hx356_1
            have hw356_0 := hx356_0
            obtain rfl : ad353 = ad356 := (by injection e356)
            replace hx356_0 := hc HB hx356_0
            replace hx356_1 := hc HB hx356_1
            replace hx356_2 := hc HB hx356_2
            replace hx356_3 := hc HB hx356_3
            replace hx356_4 := hc HB hx356_4
            have HR356_4 := Aside0.mk hi356_4
            have HC356_4 := Aside0.mk hl356_4
            clear hi356_4 hl356_4
            replace p356 := eq_true p356
            replace q356 := eq_true q356
            refine start_ (n := 31) (S := fun w' => ce w' gb349 0 (.int .i64 a0_0) ∧ ce w' gb349 1 (.int .i64 a0_1) ∧ ce w' gb349 2 (.int .i64 a0_2) ∧ ce w' gb349 3 (.int .i64 a0_3) ∧ ce w' gb349 4 (.int .i64 a0_4) ∧ ce w' gb349 5 (.int .i64 a0_5) ∧ ce w' gb349 6 (.slice A0_6 l0_6.length c0_6) ∧ ce w' gb349 7 (.slice (some ad351) l0_7.length c0_7) ∧ ce w' gb350 0 (.int .i64 a1_0) ∧ ce w' gb350 1 (.int .i64 a1_1) ∧ ce w' gb350 2 (.int .i64 a1_2) ∧ ce w' gb350 3 (.int .i64 a1_3) ∧ ce w' gb350 4 (.int .i64 a1_4) ∧ ce w' gb350 5 (.int .i64 a1_5) ∧ ce w' gb350 6 (.slice A1_6 l1_6.length c1_6) ∧ ce w' gb350 7 (.slice (some ad353) l1_7.length c1_7) ∧ w'.cell? (ad351.add ((x5_2).toNat * 5)) = some (.int .i64 ((rd_T42 l0_7 x5_2).f0.f0)) ∧ w'.cell? ⟨(ad351.add ((x5_2).toNat * 5)).block, (ad351.add ((x5_2).toNat * 5)).off + 1, none⟩ = some (.int .i64 ((rd_T42 l0_7 x5_2).f0.f1)) ∧ w'.cell? ⟨(ad351.add ((x5_2).toNat * 5)).block, (ad351.add ((x5_2).toNat * 5)).off + 2, none⟩ = some (.int .i64 ((rd_T42 l0_7 x5_2).f0.f2)) ∧ w'.cell? ⟨(ad351.add ((x5_2).toNat * 5)).block, (ad351.add ((x5_2).toNat * 5)).off + 3, none⟩ = some (.int .i64 ((rd_T42 l0_7 x5_2).f0.f3)) ∧ w'.cell? ⟨(ad351.add ((x5_2).toNat * 5)).block, (ad351.add ((x5_2).toNat * 5)).off + 4, none⟩ = some (.slice A351_4 ((rd_T42 l0_7 x5_2).f1).length c351_4) ∧ w'.cell? (ad353.add ((x5_2).toNat * 5)) = some (.int .i64 ((rd_T42 l1_7 x5_2).f0.f0)) ∧ w'.cell? ⟨(ad353.add ((x5_2).toNat * 5)).block, (ad353.add ((x5_2).toNat * 5)).off + 1, none⟩ = some (.int .i64 ((rd_T42 l1_7 x5_2).f0.f1)) ∧ w'.cell? ⟨(ad353.add ((x5_2).toNat * 5)).block, (ad353.add ((x5_2).toNat * 5)).off + 2, none⟩ = some (.int .i64 ((rd_T42 l1_7 x5_2).f0.f2)) ∧ w'.cell? ⟨(ad353.add ((x5_2).toNat * 5)).block, (ad353.add ((x5_2).toNat * 5)).off + 3, none⟩ = some (.int .i64 ((rd_T42 l1_7 x5_2).f0.f3)) ∧ w'.cell? ⟨(ad353.add ((x5_2).toNat * 5)).block, (ad353.add ((x5_2).toNat * 5)).off + 4, none⟩ = some (.slice A353_4 ((rd_T42 l1_7 x5_2).f1).length c353_4) ∧ w'.cell? (ad351.add ((x5_2).toNat * 5)) = some (.int .i64 ((rd_T42 l0_7 x5_2).f0.f0)) ∧ w'.cell? ⟨(ad351.add ((x5_2).toNat * 5)).block, (ad351.add ((x5_2).toNat * 5)).off + 1, none⟩ = some (.int .i64 ((rd_T42 l0_7 x5_2).f0.f1)) ∧ w'.cell? ⟨(ad351.add ((x5_2).toNat * 5)).block, (ad351.add ((x5_2).toNat * 5)).off + 2, none⟩ = some (.int .i64 ((rd_T42 l0_7 x5_2).f0.f2)) ∧ w'.cell? ⟨(ad351.add ((x5_2).toNat * 5)).block, (ad351.add ((x5_2).toNat * 5)).off + 3, none⟩ = some (.int .i64 ((rd_T42 l0_7 x5_2).f0.f3)) ∧ w'.cell? ⟨(ad351.add ((x5_2).toNat * 5)).block, (ad351.add ((x5_2).toNat * 5)).off + 4, none⟩ = some (.slice A355_4 ((rd_T42 l0_7 x5_2).f1).length c355_4) ∧ w'.cell? (ad353.add ((x5_2).toNat * 5)) = some (.int .i64 ((rd_T42 l1_7 x5_2).f0.f0)) ∧ w'.cell? ⟨(ad353.add ((x5_2).toNat * 5)).block, (ad353.add ((x5_2).toNat * 5)).off + 1, none⟩ = some (.int .i64 ((rd_T42 l1_7 x5_2).f0.f1)) ∧ w'.cell? ⟨(ad353.add ((x5_2).toNat * 5)).block, (ad353.add ((x5_2).toNat * 5)).off + 2, none⟩ = some (.int .i64 ((rd_T42 l1_7 x5_2).f0.f2)) ∧ w'.cell? ⟨(ad353.add ((x5_2).toNat * 5)).block, (ad353.add ((x5_2).toNat * 5)).off + 3, none⟩ = some (.int .i64 ((rd_T42 l1_7 x5_2).f0.f3)) ∧ w'.cell? ⟨(ad353.add ((x5_2).toNat * 5)).block, (ad353.add ((x5_2).toNat * 5)).off + 4, none⟩ = some (.slice A356_4 ((rd_T42 l1_7 x5_2).f1).length c356_4)) (ds := []) (MK [0, 31]) (by kernel_rfl) rfl rfl ⟨bc BK349 0, bc BK349 1, bc BK349 2, bc BK349 3, bc BK349 4, bc BK349 5, bc BK349 6, bc BK349 7, bc BK350 0, bc BK350 1, bc BK350 2, bc BK350 3, bc BK350 4, bc BK350 5, bc BK350 6, bc BK350 7, (hc HB hw351_0), (hc HB hw351_1), (hc HB hw351_2), (hc HB hw351_3), (hc HB hw351_4), (hc HB hw353_0), (hc HB hw353_1), (hc HB hw353_2), (hc HB hw353_3), (hc HB hw353_4), (hc HB hw355_0), (hc HB hw355_1), (hc HB hw355_2), (hc HB hw355_3), (hc HB hw355_4), (hc HB hw356_0), (hc HB hw356_1), (hc HB hw356_2), (hc HB hw356_3), (hc HB hw356_4)⟩ (fun hHeld => ?_); refine with_tabW waveletref50_errors.tab6 waveletref50_errors.bits6 (fun HT_ HW_ => ?_)
            generalize wr.drew = w33 at BK349 BK350 HB HR351_4 HR353_4 HR355_4 HR356_4 hx351_0 hx351_1 hx351_2 hx351_3 hx351_4 hx353_0 hx353_1 hx353_2 hx353_3 hx353_4 hx355_0 hx355_1 hx355_2 hx355_3 hx355_4 hx356_0 hx356_1 hx356_2 hx356_3 hx356_4 hHeld ⊢
            refine puX 0 33 (MK [1, 30]) HT_.out ?_
            refine puX 2 35 (MK [1, 1, 1, 28]) HT_.out ?_
            refine taX 1 34 (MK [3, 28]) HT_.out HW_.out hHeld ?_
            refine puX 3 36 (MK [4, 27]) HT_.out ?_
            refine taX 4 37 (MK [5, 26]) HT_.out HW_.out hHeld ?_
            refine onX 5 38 (MK [6, 25]) HT_.out (fun K hK => ?_)
            refine goes_ Try.func40 (by kernel_rfl) rfl #[.agg #[.int .i64 ((rd_T42 l0_7 x5_2).f0.f0), .int .i64 ((rd_T42 l0_7 x5_2).f0.f1), .int .i64 ((rd_T42 l0_7 x5_2).f0.f2), .int .i64 ((rd_T42 l0_7 x5_2).f0.f3), .slice A351_4 ((rd_T42 l0_7 x5_2).f1).length c351_4]] (by rfl) rfl rfl upL ?_
            with_reducible refine (waveletref02_Valid.calls ((rd_T42 l0_7 x5_2).f0.f0) ((rd_T42 l0_7 x5_2).f0.f1) ((rd_T42 l0_7 x5_2).f0.f2) ((rd_T42 l0_7 x5_2).f0.f3) _ _ ((rd_T42 l0_7 x5_2).f1) true _ ?side1 ?side2 A20.out).mono ?_
            (case side1 => repeat (first | exact (Kd.C_below HR351_4.out HB.out) | (with_reducible refine Kd.C_alloc ?_ _) | (with_reducible refine Kd.C_drewN ?_ _) | (with_reducible refine Kd.C_drew ?_)))
            (case side2 => exact HC351_4.out)
            rintro e w34 ⟨rfl, hb⟩
            refine ⟨_, rfl, ?_⟩
            replace BK349 := Aside0.mk (blk_below BK349.out hb)
            replace BK350 := Aside0.mk (blk_below BK350.out hb)
            replace HB := Aside0.mk (below_step HB.out hb)
            (try clear hb); (try clear hb2); (try clear hk); (try clear hi)
            refine hK.out _ _ ⟨bc BK349 0, bc BK349 1, bc BK349 2, bc BK349 3, bc BK349 4, bc BK349 5, bc BK349 6, bc BK349 7, bc BK350 0, bc BK350 1, bc BK350 2, bc BK350 3, bc BK350 4, bc BK350 5, bc BK350 6, bc BK350 7, (hc HB hw351_0), (hc HB hw351_1), (hc HB hw351_2), (hc HB hw351_3), (hc HB hw351_4), (hc HB hw353_0), (hc HB hw353_1), (hc HB hw353_2), (hc HB hw353_3), (hc HB hw353_4), (hc HB hw355_0), (hc HB hw355_1), (hc HB hw355_2), (hc HB hw355_3), (hc HB hw355_4), (hc HB hw356_0), (hc HB hw356_1), (hc HB hw356_2), (hc HB hw356_3), (hc HB hw356_4)⟩ (fun hHeld => ?_)
            clear hK K
            refine noX ?_
            refine puX 6 39 (MK [7, 24]) HT_.out ?_
            refine puX 7 40 (MK [8, 23]) HT_.out ?_
            refine puX 8 41 (MK [9, 22]) HT_.out ?_
            refine puX 10 43 (MK [9, 1, 1, 20]) HT_.out ?_
            refine taX 9 42 (MK [11, 20]) HT_.out HW_.out hHeld ?_
            refine puX 11 44 (MK [12, 19]) HT_.out ?_
            refine taX 12 45 (MK [13, 18]) HT_.out HW_.out hHeld ?_
            refine onX 13 46 (MK [14, 17]) HT_.out (fun K hK => ?_)
            refine goes_ Try.func40 (by kernel_rfl) rfl #[.agg #[.int .i64 ((rd_T42 l1_7 x5_2).f0.f0), .int .i64 ((rd_T42 l1_7 x5_2).f0.f1), .int .i64 ((rd_T42 l1_7 x5_2).f0.f2), .int .i64 ((rd_T42 l1_7 x5_2).f0.f3), .slice A353_4 ((rd_T42 l1_7 x5_2).f1).length c353_4]] (by rfl) rfl rfl upL ?_
            with_reducible refine (waveletref02_Valid.calls ((rd_T42 l1_7 x5_2).f0.f0) ((rd_T42 l1_7 x5_2).f0.f1) ((rd_T42 l1_7 x5_2).f0.f2) ((rd_T42 l1_7 x5_2).f0.f3) _ _ ((rd_T42 l1_7 x5_2).f1) true _ ?side1 ?side2 A23.out).mono ?_
            (case side1 => repeat (first | exact (Kd.C_below HR353_4.out HB.out) | (with_reducible refine Kd.C_alloc ?_ _) | (with_reducible refine Kd.C_drewN ?_ _) | (with_reducible refine Kd.C_drew ?_)))
            (case side2 => exact HC353_4.out)
            rintro e w35 ⟨rfl, hb⟩
            refine ⟨_, rfl, ?_⟩
            replace BK349 := Aside0.mk (blk_below BK349.out hb)
            replace BK350 := Aside0.mk (blk_below BK350.out hb)
            replace HB := Aside0.mk (below_step HB.out hb)
            (try clear hb); (try clear hb2); (try clear hk); (try clear hi)
            refine hK.out _ _ ⟨bc BK349 0, bc BK349 1, bc BK349 2, bc BK349 3, bc BK349 4, bc BK349 5, bc BK349 6, bc BK349 7, bc BK350 0, bc BK350 1, bc BK350 2, bc BK350 3, bc BK350 4, bc BK350 5, bc BK350 6, bc BK350 7, (hc HB hw351_0), (hc HB hw351_1), (hc HB hw351_2), (hc HB hw351_3), (hc HB hw351_4), (hc HB hw353_0), (hc HB hw353_1), (hc HB hw353_2), (hc HB hw353_3), (hc HB hw353_4), (hc HB hw355_0), (hc HB hw355_1), (hc HB hw355_2), (hc HB hw355_3), (hc HB hw355_4), (hc HB hw356_0), (hc HB hw356_1), (hc HB hw356_2), (hc HB hw356_3), (hc HB hw356_4)⟩ (fun hHeld => ?_)
            clear hK K
            refine noX ?_
            refine puX 14 47 (MK [15, 16]) HT_.out ?_
            refine puX 15 48 (MK [16, 15]) HT_.out ?_
            refine puX 16 49 (MK [17, 14]) HT_.out ?_
            refine puX 17 50 (MK [18, 13]) HT_.out ?_
            refine puX 19 52 (MK [18, 1, 1, 11]) HT_.out ?_
            refine puX 23 56 (MK [18, 1, 1, 3, 1, 7]) HT_.out ?_
            refine puX 25 58 (MK [18, 1, 1, 3, 1, 1, 1, 5]) HT_.out ?_
            refine taX 18 51 (MK [20, 3, 1, 1, 1, 5]) HT_.out HW_.out hHeld ?_
            refine puX 20 53 (MK [21, 2, 1, 1, 1, 5]) HT_.out ?_
            refine puX 21 54 (MK [22, 1, 1, 1, 1, 5]) HT_.out ?_
            refine taX 22 55 (MK [24, 1, 1, 5]) HT_.out HW_.out hHeld ?_
            refine taX 24 57 (MK [26, 5]) HT_.out HW_.out hHeld ?_
            refine puX 26 59 (MK [27, 4]) HT_.out ?_
            refine puX 27 60 (MK [28, 3]) HT_.out ?_
            refine taX 28 61 (MK [29, 2]) HT_.out HW_.out hHeld ?_
            refine puX 29 62 (MK [30, 1]) HT_.out ?_
            refine puX 30 63 (MK [31]) HT_.out ?_
            refine done_ (done_of HT_.out (by kernel_rfl)) ?_
            try go_wp2
            go_roundg k2
            case measure => have := HJ2.out; have := HK2.out; omega
            case rel => exact ⟨(wrap64 (x5_2 + 1)), (by first | rfl | (simp; done) | (simp [*]; done)), H', ⟨by have := HJ2.out; have := HK2.out; omega⟩, ⟨BK349.out⟩, ⟨BK350.out⟩, ⟨HB.out⟩⟩
          ·replace c24 := Bool.eq_false_iff.mpr c24
           subst c24
           rw [if_neg (show ¬ (false = true) by decide)] at H
           obtain rfl := Option.some.inj H
           have hnb36 := NB349_350.out
           have hnc36 := NB350_349.out
           obtain ⟨hcz37_0, hcz37_1, hcz37_2, hcz37_3, hcz37_4, hcz37_5, hcz37_6, hcz37_7, hfz37_0, hfz37_1, hfz37_2, hfz37_3, hfz37_4, hfz37_5, hfz37_6, hfz37_7⟩ := blk_all8 BK349.out
           try go_wp2
           replace BK349 := Aside0.mk (blk_drew BK349.out)
           replace BK350 := Aside0.mk (blk_drew BK350.out)
           replace HB := Aside0.mk (below_drew1 HB.out)
           have p351 : 0 ≤ (x5_2 : Int) := of_decide_eq_true (by first | (with_reducible assumption) | assumption)
           have q351 : x5_2 < (l0_7.length : Int) := of_decide_eq_true (by first | (with_reducible assumption) | assumption)
           obtain ⟨ad351, A351_4, c351_4, e351, hx351_0, hx351_1, hx351_2, hx351_3, hx351_4, hl351_4, hi351_4⟩ := at_T42 HR0_7.out x5_2 p351 q351
           have hw351_4 := hx351_4
           have hw351_3 := hx351_3
           have hw351_2 := hx351_2
           have hw351_1 := hx351_1
           have hw351_0 := hx351_0
           cases e351
           replace hx351_0 := hc HB hx351_0
           replace hx351_1 := hc HB hx351_1
           replace hx351_2 := hc HB hx351_2
           replace hx351_3 := hc HB hx351_3
           replace hx351_4 := hc HB hx351_4
           have HR351_4 := Aside0.mk hi351_4
           have HC351_4 := Aside0.mk hl351_4
           clear hi351_4 hl351_4
           replace p351 := eq_true p351
           replace q351 := eq_true q351
           have p353 : 0 ≤ (x5_2 : Int) := of_decide_eq_true (by first | (with_reducible assumption) | assumption)
           have q353 : x5_2 < (l1_7.length : Int) := of_decide_eq_true (by first | (with_reducible assumption) | assumption)
           obtain ⟨ad353, A353_4, c353_4, e353, hx353_0, hx353_1, hx353_2, hx353_3, hx353_4, hl353_4, hi353_4⟩ := at_T42 HR1_7.out x5_2 p353 q353
           have hw353_4 := hx353_4
           have hw353_3 := hx353_3
           have hw353_2 := hx353_2
           have hw353_1 := hx353_1
           have hw353_0 := hx353_0
           cases e353
           replace hx353_0 := hc HB hx353_0
           replace hx353_1 := hc HB hx353_1
           replace hx353_2 := hc HB hx353_2
           replace hx353_3 := hc HB hx353_3
           replace hx353_4 := hc HB hx353_4
           have HR353_4 := Aside0.mk hi353_4
           have HC353_4 := Aside0.mk hl353_4
           clear hi353_4 hl353_4
           replace p353 := eq_true p353
           replace q353 := eq_true q353
           refine start_ (n := 31) (S := fun w' => ce w' gb349 0 (.int .i64 a0_0) ∧ ce w' gb349 1 (.int .i64 a0_1) ∧ ce w' gb349 2 (.int .i64 a0_2) ∧ ce w' gb349 3 (.int .i64 a0_3) ∧ ce w' gb349 4 (.int .i64 a0_4) ∧ ce w' gb349 5 (.int .i64 a0_5) ∧ ce w' gb349 6 (.slice A0_6 l0_6.length c0_6) ∧ ce w' gb349 7 (.slice (some ad351) l0_7.length c0_7) ∧ ce w' gb350 0 (.int .i64 a1_0) ∧ ce w' gb350 1 (.int .i64 a1_1) ∧ ce w' gb350 2 (.int .i64 a1_2) ∧ ce w' gb350 3 (.int .i64 a1_3) ∧ ce w' gb350 4 (.int .i64 a1_4) ∧ ce w' gb350 5 (.int .i64 a1_5) ∧ ce w' gb350 6 (.slice A1_6 l1_6.length c1_6) ∧ ce w' gb350 7 (.slice (some ad353) l1_7.length c1_7) ∧ w'.cell? (ad351.add ((x5_2).toNat * 5)) = some (.int .i64 ((rd_T42 l0_7 x5_2).f0.f0)) ∧ w'.cell? ⟨(ad351.add ((x5_2).toNat * 5)).block, (ad351.add ((x5_2).toNat * 5)).off + 1, none⟩ = some (.int .i64 ((rd_T42 l0_7 x5_2).f0.f1)) ∧ w'.cell? ⟨(ad351.add ((x5_2).toNat * 5)).block, (ad351.add ((x5_2).toNat * 5)).off + 2, none⟩ = some (.int .i64 ((rd_T42 l0_7 x5_2).f0.f2)) ∧ w'.cell? ⟨(ad351.add ((x5_2).toNat * 5)).block, (ad351.add ((x5_2).toNat * 5)).off + 3, none⟩ = some (.int .i64 ((rd_T42 l0_7 x5_2).f0.f3)) ∧ w'.cell? ⟨(ad351.add ((x5_2).toNat * 5)).block, (ad351.add ((x5_2).toNat * 5)).off + 4, none⟩ = some (.slice A351_4 ((rd_T42 l0_7 x5_2).f1).length c351_4) ∧ w'.cell? (ad353.add ((x5_2).toNat * 5)) = some (.int .i64 ((rd_T42 l1_7 x5_2).f0.f0)) ∧ w'.cell? ⟨(ad353.add ((x5_2).toNat * 5)).block, (ad353.add ((x5_2).toNat * 5)).off + 1, none⟩ = some (.int .i64 ((rd_T42 l1_7 x5_2).f0.f1)) ∧ w'.cell? ⟨(ad353.add ((x5_2).toNat * 5)).block, (ad353.add ((x5_2).toNat * 5)).off + 2, none⟩ = some (.int .i64 ((rd_T42 l1_7 x5_2).f0.f2)) ∧ w'.cell? ⟨(ad353.add ((x5_2).toNat * 5)).block, (ad353.add ((x5_2).toNat * 5)).off + 3, none⟩ = some (.int .i64 ((rd_T42 l1_7 x5_2).f0.f3)) ∧ w'.cell? ⟨(ad353.add ((x5_2).toNat * 5)).block, (ad353.add ((x5_2).toNat * 5)).off + 4, none⟩ = some (.slice A353_4 ((rd_T42 l1_7 x5_2).f1).length c353_4)) (ds := []) (MK [0, 31]) (by kernel_rfl) rfl rfl ⟨bc BK349 0, bc BK349 1, bc BK349 2, bc BK349 3, bc BK349 4, bc BK349 5, bc BK349 6, bc BK349 7, bc BK350 0, bc BK350 1, bc BK350 2, bc BK350 3, bc BK350 4, bc BK350 5, bc BK350 6, bc BK350 7, (hc HB hw351_0), (hc HB hw351_1), (hc HB hw351_2), (hc HB hw351_3), (hc HB hw351_4), (hc HB hw353_0), (hc HB hw353_1), (hc HB hw353_2), (hc HB hw353_3), (hc HB hw353_4)⟩ (fun hHeld => ?_); refine with_tabW waveletref50_errors.tab6 waveletref50_errors.bits6 (fun HT_ HW_ => ?_)
           generalize wr.drew = w38 at BK349 BK350 HB HR351_4 HR353_4 hx351_0 hx351_1 hx351_2 hx351_3 hx351_4 hx353_0 hx353_1 hx353_2 hx353_3 hx353_4 hHeld ⊢
           refine puX 0 33 (MK [1, 30]) HT_.out ?_
           refine puX 2 35 (MK [1, 1, 1, 28]) HT_.out ?_
           refine taX 1 34 (MK [3, 28]) HT_.out HW_.out hHeld ?_
           refine puX 3 36 (MK [4, 27]) HT_.out ?_
           refine taX 4 37 (MK [5, 26]) HT_.out HW_.out hHeld ?_
           refine onX 5 38 (MK [6, 25]) HT_.out (fun K hK => ?_)
           refine goes_ Try.func40 (by kernel_rfl) rfl #[.agg #[.int .i64 ((rd_T42 l0_7 x5_2).f0.f0), .int .i64 ((rd_T42 l0_7 x5_2).f0.f1), .int .i64 ((rd_T42 l0_7 x5_2).f0.f2), .int .i64 ((rd_T42 l0_7 x5_2).f0.f3), .slice A351_4 ((rd_T42 l0_7 x5_2).f1).length c351_4]] (by rfl) rfl rfl upL ?_
           with_reducible refine (waveletref02_Valid.calls ((rd_T42 l0_7 x5_2).f0.f0) ((rd_T42 l0_7 x5_2).f0.f1) ((rd_T42 l0_7 x5_2).f0.f2) ((rd_T42 l0_7 x5_2).f0.f3) _ _ ((rd_T42 l0_7 x5_2).f1) true _ ?side1 ?side2 A20.out).mono ?_
           (case side1 => repeat (first | exact (Kd.C_below HR351_4.out HB.out) | (with_reducible refine Kd.C_alloc ?_ _) | (with_reducible refine Kd.C_drewN ?_ _) | (with_reducible refine Kd.C_drew ?_)))
           (case side2 => exact HC351_4.out)
           rintro e w39 ⟨rfl, hb⟩
           refine ⟨_, rfl, ?_⟩
           replace BK349 := Aside0.mk (blk_below BK349.out hb)
           replace BK350 := Aside0.mk (blk_below BK350.out hb)
           replace HB := Aside0.mk (below_step HB.out hb)
           (try clear hb); (try clear hb2); (try clear hk); (try clear hi)
           refine hK.out _ _ ⟨bc BK349 0, bc BK349 1, bc BK349 2, bc BK349 3, bc BK349 4, bc BK349 5, bc BK349 6, bc BK349 7, bc BK350 0, bc BK350 1, bc BK350 2, bc BK350 3, bc BK350 4, bc BK350 5, bc BK350 6, bc BK350 7, (hc HB hw351_0), (hc HB hw351_1), (hc HB hw351_2), (hc HB hw351_3), (hc HB hw351_4), (hc HB hw353_0), (hc HB hw353_1), (hc HB hw353_2), (hc HB hw353_3), (hc HB hw353_4)⟩ (fun hHeld => ?_)
           clear hK K
           refine noX ?_
           refine puX 6 39 (MK [7, 24]) HT_.out ?_
           refine puX 7 40 (MK [8, 23]) HT_.out ?_
           refine puX 8 41 (MK [9, 22]) HT_.out ?_
           refine puX 10 43 (MK [9, 1, 1, 20]) HT_.out ?_
           refine taX 9 42 (MK [11, 20]) HT_.out HW_.out hHeld ?_
           refine puX 11 44 (MK [12, 19]) HT_.out ?_
           refine taX 12 45 (MK [13, 18]) HT_.out HW_.out hHeld ?_
           refine onX 13 46 (MK [14, 17]) HT_.out (fun K hK => ?_)
           refine goes_ Try.func40 (by kernel_rfl) rfl #[.agg #[.int .i64 ((rd_T42 l1_7 x5_2).f0.f0), .int .i64 ((rd_T42 l1_7 x5_2).f0.f1), .int .i64 ((rd_T42 l1_7 x5_2).f0.f2), .int .i64 ((rd_T42 l1_7 x5_2).f0.f3), .slice A353_4 ((rd_T42 l1_7 x5_2).f1).length c353_4]] (by rfl) rfl rfl upL ?_
           with_reducible refine (waveletref02_Valid.calls ((rd_T42 l1_7 x5_2).f0.f0) ((rd_T42 l1_7 x5_2).f0.f1) ((rd_T42 l1_7 x5_2).f0.f2) ((rd_T42 l1_7 x5_2).f0.f3) _ _ ((rd_T42 l1_7 x5_2).f1) false _ ?side1 ?side2 A23.out).mono ?_
           (case side1 => repeat (first | exact (Kd.C_below HR353_4.out HB.out) | (with_reducible refine Kd.C_alloc ?_ _) | (with_reducible refine Kd.C_drewN ?_ _) | (with_reducible refine Kd.C_drew ?_)))
           (case side2 => exact HC353_4.out)
           rintro e w40 ⟨rfl, hb⟩
           refine ⟨_, rfl, ?_⟩
           replace BK349 := Aside0.mk (blk_below BK349.out hb)
           replace BK350 := Aside0.mk (blk_below BK350.out hb)
           replace HB := Aside0.mk (below_step HB.out hb)
           (try clear hb); (try clear hb2); (try clear hk); (try clear hi)
           refine hK.out _ _ ⟨bc BK349 0, bc BK349 1, bc BK349 2, bc BK349 3, bc BK349 4, bc BK349 5, bc BK349 6, bc BK349 7, bc BK350 0, bc BK350 1, bc BK350 2, bc BK350 3, bc BK350 4, bc BK350 5, bc BK350 6, bc BK350 7, (hc HB hw351_0), (hc HB hw351_1), (hc HB hw351_2), (hc HB hw351_3), (hc HB hw351_4), (hc HB hw353_0), (hc HB hw353_1), (hc HB hw353_2), (hc HB hw353_3), (hc HB hw353_4)⟩ (fun hHeld => ?_)
           clear hK K
           refine noX ?_
           refine puX 14 47 (MK [15, 16]) HT_.out ?_
           refine puX 15 48 (MK [16, 15]) HT_.out ?_
           refine puX 16 49 (MK [17, 14]) HT_.out ?_
           refine puU 17 50 (MK [18, 13]) HT_.out ?_
           refine puU 18 51 (MK [19, 12]) HT_.out ?_
           refine puU 19 52 (MK [20, 11]) HT_.out ?_
           refine puU 20 53 (MK [21, 10]) HT_.out ?_
           refine puU 21 54 (MK [22, 9]) HT_.out ?_
           refine puU 22 55 (MK [23, 8]) HT_.out ?_
           refine puU 23 56 (MK [24, 7]) HT_.out ?_
           refine puU 24 57 (MK [25, 6]) HT_.out ?_
           refine puU 25 58 (MK [26, 5]) HT_.out ?_
           refine puU 26 59 (MK [27, 4]) HT_.out ?_
           refine puU 27 60 (MK [28, 3]) HT_.out ?_
           refine puU 28 61 (MK [29, 2]) HT_.out ?_
           refine puU 29 62 (MK [30, 1]) HT_.out ?_
           refine puX 30 63 (MK [31]) HT_.out ?_
           refine done_ (done_of HT_.out (by kernel_rfl)) ?_
           try go_wp2
           go_ret
           exact ⟨by first | rfl | (simp [errW_none, errW_some] <;> rfl) | (simp [*, errW_none, errW_some] <;> rfl), HB.out⟩
         ·rw [if_neg c22] at H
          exact absurd H (by simp)
        ·replace c21 := Bool.eq_false_iff.mpr c21
         subst c21
         rw [if_neg (show ¬ (false = true) by decide)] at H
         obtain rfl := Option.some.inj H
         have hnb41 := NB349_350.out
         have hnc41 := NB350_349.out
         obtain ⟨hcz42_0, hcz42_1, hcz42_2, hcz42_3, hcz42_4, hcz42_5, hcz42_6, hcz42_7, hfz42_0, hfz42_1, hfz42_2, hfz42_3, hfz42_4, hfz42_5, hfz42_6, hfz42_7⟩ := blk_all8 BK349.out
         try go_wp2
         replace BK349 := Aside0.mk (blk_drew BK349.out)
         replace BK350 := Aside0.mk (blk_drew BK350.out)
         replace HB := Aside0.mk (below_drew1 HB.out)
         have p351 : 0 ≤ (x5_2 : Int) := of_decide_eq_true (by first | (with_reducible assumption) | assumption)
         have q351 : x5_2 < (l0_7.length : Int) := of_decide_eq_true (by first | (with_reducible assumption) | assumption)
         obtain ⟨ad351, A351_4, c351_4, e351, hx351_0, hx351_1, hx351_2, hx351_3, hx351_4, hl351_4, hi351_4⟩ := at_T42 HR0_7.out x5_2 p351 q351
         have hw351_4 := hx351_4
         have hw351_3 := hx351_3
         have hw351_2 := hx351_2
         have hw351_1 := hx351_1
         have hw351_0 := hx351_0
         cases e351
         replace hx351_0 := hc HB hx351_0
         replace hx351_1 := hc HB hx351_1
         replace hx351_2 := hc HB hx351_2
         replace hx351_3 := hc HB hx351_3
         replace hx351_4 := hc HB hx351_4
         have HR351_4 := Aside0.mk hi351_4
         have HC351_4 := Aside0.mk hl351_4
         clear hi351_4 hl351_4
         replace p351 := eq_true p351
         replace q351 := eq_true q351
         refine start_ (n := 31) (S := fun w' => ce w' gb349 0 (.int .i64 a0_0) ∧ ce w' gb349 1 (.int .i64 a0_1) ∧ ce w' gb349 2 (.int .i64 a0_2) ∧ ce w' gb349 3 (.int .i64 a0_3) ∧ ce w' gb349 4 (.int .i64 a0_4) ∧ ce w' gb349 5 (.int .i64 a0_5) ∧ ce w' gb349 6 (.slice A0_6 l0_6.length c0_6) ∧ ce w' gb349 7 (.slice (some ad351) l0_7.length c0_7) ∧ w'.cell? (ad351.add ((x5_2).toNat * 5)) = some (.int .i64 ((rd_T42 l0_7 x5_2).f0.f0)) ∧ w'.cell? ⟨(ad351.add ((x5_2).toNat * 5)).block, (ad351.add ((x5_2).toNat * 5)).off + 1, none⟩ = some (.int .i64 ((rd_T42 l0_7 x5_2).f0.f1)) ∧ w'.cell? ⟨(ad351.add ((x5_2).toNat * 5)).block, (ad351.add ((x5_2).toNat * 5)).off + 2, none⟩ = some (.int .i64 ((rd_T42 l0_7 x5_2).f0.f2)) ∧ w'.cell? ⟨(ad351.add ((x5_2).toNat * 5)).block, (ad351.add ((x5_2).toNat * 5)).off + 3, none⟩ = some (.int .i64 ((rd_T42 l0_7 x5_2).f0.f3)) ∧ w'.cell? ⟨(ad351.add ((x5_2).toNat * 5)).block, (ad351.add ((x5_2).toNat * 5)).off + 4, none⟩ = some (.slice A351_4 ((rd_T42 l0_7 x5_2).f1).length c351_4)) (ds := []) (MK [0, 31]) (by kernel_rfl) rfl rfl ⟨bc BK349 0, bc BK349 1, bc BK349 2, bc BK349 3, bc BK349 4, bc BK349 5, bc BK349 6, bc BK349 7, (hc HB hw351_0), (hc HB hw351_1), (hc HB hw351_2), (hc HB hw351_3), (hc HB hw351_4)⟩ (fun hHeld => ?_); refine with_tabW waveletref50_errors.tab6 waveletref50_errors.bits6 (fun HT_ HW_ => ?_)
         generalize wr.drew = w43 at BK349 BK350 HB HR351_4 hx351_0 hx351_1 hx351_2 hx351_3 hx351_4 hHeld ⊢
         refine puX 0 33 (MK [1, 30]) HT_.out ?_
         refine puX 2 35 (MK [1, 1, 1, 28]) HT_.out ?_
         refine taX 1 34 (MK [3, 28]) HT_.out HW_.out hHeld ?_
         refine puX 3 36 (MK [4, 27]) HT_.out ?_
         refine taX 4 37 (MK [5, 26]) HT_.out HW_.out hHeld ?_
         refine onX 5 38 (MK [6, 25]) HT_.out (fun K hK => ?_)
         refine goes_ Try.func40 (by kernel_rfl) rfl #[.agg #[.int .i64 ((rd_T42 l0_7 x5_2).f0.f0), .int .i64 ((rd_T42 l0_7 x5_2).f0.f1), .int .i64 ((rd_T42 l0_7 x5_2).f0.f2), .int .i64 ((rd_T42 l0_7 x5_2).f0.f3), .slice A351_4 ((rd_T42 l0_7 x5_2).f1).length c351_4]] (by rfl) rfl rfl upL ?_
         with_reducible refine (waveletref02_Valid.calls ((rd_T42 l0_7 x5_2).f0.f0) ((rd_T42 l0_7 x5_2).f0.f1) ((rd_T42 l0_7 x5_2).f0.f2) ((rd_T42 l0_7 x5_2).f0.f3) _ _ ((rd_T42 l0_7 x5_2).f1) false _ ?side1 ?side2 A20.out).mono ?_
         (case side1 => repeat (first | exact (Kd.C_below HR351_4.out HB.out) | (with_reducible refine Kd.C_alloc ?_ _) | (with_reducible refine Kd.C_drewN ?_ _) | (with_reducible refine Kd.C_drew ?_)))
         (case side2 => exact HC351_4.out)
         rintro e w44 ⟨rfl, hb⟩
         refine ⟨_, rfl, ?_⟩
         replace BK349 := Aside0.mk (blk_below BK349.out hb)
         replace BK350 := Aside0.mk (blk_below BK350.out hb)
         replace HB := Aside0.mk (below_step HB.out hb)
         (try clear hb); (try clear hb2); (try clear hk); (try clear hi)
         refine hK.out _ _ ⟨bc BK349 0, bc BK349 1, bc BK349 2, bc BK349 3, bc BK349 4, bc BK349 5, bc BK349 6, bc BK349 7, (hc HB hw351_0), (hc HB hw351_1), (hc HB hw351_2), (hc HB hw351_3), (hc HB hw351_4)⟩ (fun hHeld => ?_)
         clear hK K
         refine noX ?_
         refine puX 6 39 (MK [7, 24]) HT_.out ?_
         refine puX 7 40 (MK [8, 23]) HT_.out ?_
         refine puU 8 41 (MK [9, 22]) HT_.out ?_
         refine puU 9 42 (MK [10, 21]) HT_.out ?_
         refine puU 10 43 (MK [11, 20]) HT_.out ?_
         refine puU 11 44 (MK [12, 19]) HT_.out ?_
         refine puU 12 45 (MK [13, 18]) HT_.out ?_
         refine puU 13 46 (MK [14, 17]) HT_.out ?_
         refine puU 14 47 (MK [15, 16]) HT_.out ?_
         refine puX 15 48 (MK [16, 15]) HT_.out ?_
         refine puX 16 49 (MK [17, 14]) HT_.out ?_
         refine puU 17 50 (MK [18, 13]) HT_.out ?_
         refine puU 18 51 (MK [19, 12]) HT_.out ?_
         refine puU 19 52 (MK [20, 11]) HT_.out ?_
         refine puU 20 53 (MK [21, 10]) HT_.out ?_
         refine puU 21 54 (MK [22, 9]) HT_.out ?_
         refine puU 22 55 (MK [23, 8]) HT_.out ?_
         refine puU 23 56 (MK [24, 7]) HT_.out ?_
         refine puU 24 57 (MK [25, 6]) HT_.out ?_
         refine puU 25 58 (MK [26, 5]) HT_.out ?_
         refine puU 26 59 (MK [27, 4]) HT_.out ?_
         refine puU 27 60 (MK [28, 3]) HT_.out ?_
         refine puU 28 61 (MK [29, 2]) HT_.out ?_
         refine puU 29 62 (MK [30, 1]) HT_.out ?_
         refine puX 30 63 (MK [31]) HT_.out ?_
         refine done_ (done_of HT_.out (by kernel_rfl)) ?_
         try go_wp2
         go_ret
         exact ⟨by first | rfl | (simp [errW_none, errW_some] <;> rfl) | (simp [*, errW_none, errW_some] <;> rfl), HB.out⟩
       ·rw [if_neg c19] at H
        exact absurd H (by simp)
      ·rw [if_neg c18] at H
       have c18b0 : decide (x5_2 < (l0_7.length : Int)) = false := decide_eq_false c18
       clear c18
       have H' := Aside0.mk H
       clear H
       have hnb45 := NB349_350.out
       have hnc45 := NB350_349.out
       obtain ⟨hcz46_0, hcz46_1, hcz46_2, hcz46_3, hcz46_4, hcz46_5, hcz46_6, hcz46_7, hfz46_0, hfz46_1, hfz46_2, hfz46_3, hfz46_4, hfz46_5, hfz46_6, hfz46_7⟩ := blk_all8 BK349.out
       go_wp2
       go_loopg [6] k2 (fun kq v6 w' => ∃ (x6_3 : Int), v6 = .int .i64 x6_3 ∧ Aside0 (waveletref50_errors.l1 kq x6_3 a0_0 a0_1 a0_2 a0_3 a0_4 a0_5 l0_6 l0_7 a1_0 a1_1 a1_2 a1_3 a1_4 a1_5 l1_6 l1_7 = some r) ∧ Aside0 (kq ≤ k2) ∧ Aside0 (w'.heap[gb349]? = some (.cells #[.int .i64 a0_0, .int .i64 a0_1, .int .i64 a0_2, .int .i64 a0_3, .int .i64 a0_4, .int .i64 a0_5, (.slice A0_6 l0_6.length c0_6), (.slice A0_7 l0_7.length c0_7)] 29 (0, 0))) ∧ Aside0 (w'.heap[gb350]? = some (.cells #[.int .i64 a1_0, .int .i64 a1_1, .int .i64 a1_2, .int .i64 a1_3, .int .i64 a1_4, .int .i64 a1_5, (.slice A1_6 l1_6.length c1_6), (.slice A1_7 l1_7.length c1_7)] 29 (0, 0))) ∧ Aside0 (Below w.heap.size w w'))
       case atStart => exact ⟨(0), (by first | rfl | (simp; done) | (simp [*]; done)), H', ⟨Nat.le_refl _⟩, ⟨BK349.out⟩, ⟨BK350.out⟩, ⟨HB.out⟩⟩
       case round =>
        clear H'
        try clear c1; try clear c2; try clear p2; try clear c3; try clear p3; try clear q3; try clear hx3; try clear c4; try clear p6; try clear c18; try clear c18b0; try clear c19; try clear c21; try clear c22; try clear c24; try clear c35; try clear p35; try clear q35; try clear hx35; try clear c36; try clear c40; try clear c41; try clear c45; try clear hcz37_0; try clear hcz37_1; try clear hcz37_2; try clear hcz37_3; try clear hcz37_4; try clear hcz37_5; try clear hcz37_6; try clear hcz37_7; try clear hcz42_0; try clear hcz42_1; try clear hcz42_2; try clear hcz42_3; try clear hcz42_4; try clear hcz42_5; try clear hcz42_6; try clear hcz42_7; try clear hcz46_0; try clear hcz46_1; try clear hcz46_2; try clear hcz46_3; try clear hcz46_4; try clear hcz46_5; try clear hcz46_6; try clear hcz46_7; try clear hfz37_0; try clear hfz37_1; try clear hfz37_2; try clear hfz37_3; try clear hfz37_4; try clear hfz37_5; try clear hfz37_6; try clear hfz37_7; try clear hfz42_0; try clear hfz42_1; try clear hfz42_2; try clear hfz42_3; try clear hfz42_4; try clear hfz42_5; try clear hfz42_6; try clear hfz42_7; try clear hfz46_0; try clear hfz46_1; try clear hfz46_2; try clear hfz46_3; try clear hfz46_4; try clear hfz46_5; try clear hfz46_6; try clear hfz46_7; try clear hx351_0; try clear hx351_1; try clear hx351_2; try clear hx351_3; try clear hx351_4; try clear hx353_0; try clear hx353_1; try clear hx353_2; try clear hx353_3; try clear hx353_4; try clear p351; try clear p353; try clear q351; try clear q353
        obtain ⟨x6_3, rfl, HA, HK3, BK349, BK350, HB⟩ := hrel
        cases gk with
        | zero => exact absurd HA.out (by simp [waveletref50_errors.l1])
        | succ k3 =>
         have H := HA.out
         clear HA
         simp only [waveletref50_errors.l1] at H
         by_cases c47 : x6_3 < (l0_7.length : Int)
         ·rw [if_pos c47] at H
          have c47b0 : decide (x6_3 < (l0_7.length : Int)) = true := decide_eq_true c47
          clear c47
          by_cases c48 : 0 ≤ x6_3
          ·rw [if_pos c48] at H
           have c48b0 : decide (0 ≤ x6_3) = true := decide_eq_true c48
           clear c48
           replace H := Option.bind_eq_some_iff.mp H
           obtain ⟨t358, A490, H⟩ := H
           replace H : (if t358 = true then (if x6_3 < (l1_7.length : Int) then ((waveletref02_Bounded.f k3 ((rd_T42 l1_7 x6_3).f0.f0) ((rd_T42 l1_7 x6_3).f0.f1) ((rd_T42 l1_7 x6_3).f0.f2) ((rd_T42 l1_7 x6_3).f0.f3) ((rd_T42 l1_7 x6_3).f1) 65536).bind fun t360 => (if t360 = true then (waveletref50_errors.l1 k3 (wrap64 (x6_3 + 1)) a0_0 a0_1 a0_2 a0_3 a0_4 a0_5 l0_6 l0_7 a1_0 a1_1 a1_2 a1_3 a1_4 a1_5 l1_6 l1_7) else (some 2))) else (none)) else (some 2)) = some r := H
           have A49 := Aside0.mk A490
           clear A490
           by_cases c50 : t358 = true
           ·subst c50
            rw [if_pos rfl] at H
            by_cases c51 : x6_3 < (l1_7.length : Int)
            ·rw [if_pos c51] at H
             have c51b0 : decide (x6_3 < (l1_7.length : Int)) = true := decide_eq_true c51
             clear c51
             replace H := Option.bind_eq_some_iff.mp H
             obtain ⟨t360, A520, H⟩ := H
             replace H : (if t360 = true then (waveletref50_errors.l1 k3 (wrap64 (x6_3 + 1)) a0_0 a0_1 a0_2 a0_3 a0_4 a0_5 l0_6 l0_7 a1_0 a1_1 a1_2 a1_3 a1_4 a1_5 l1_6 l1_7) else (some 2)) = some r := H
             have A52 := Aside0.mk A520
             clear A520
             by_cases c53 : t360 = true
             ·subst c53
              rw [if_pos rfl] at H
              have H' := Aside0.mk H
              clear H
              have hnb54 := NB349_350.out
              have hnc54 := NB350_349.out
              obtain ⟨hcz55_0, hcz55_1, hcz55_2, hcz55_3, hcz55_4, hcz55_5, hcz55_6, hcz55_7, hfz55_0, hfz55_1, hfz55_2, hfz55_3, hfz55_4, hfz55_5, hfz55_6, hfz55_7⟩ := blk_all8 BK349.out
              have p357 : 0 ≤ (x6_3 : Int) := of_decide_eq_true (by first | (with_reducible assumption) | assumption)
              have q357 : x6_3 < (l0_7.length : Int) := of_decide_eq_true (by first | (with_reducible assumption) | assumption)
              obtain ⟨ad357, A357_4, c357_4, e357, hx357_0, hx357_1, hx357_2, hx357_3, hx357_4, hl357_4, hi357_4⟩ := at_T42 HR0_7.out x6_3 p357 q357
              cases e357
              replace hx357_0 := hc HB hx357_0
              replace hx357_1 := hc HB hx357_1
              replace hx357_2 := hc HB hx357_2
              replace hx357_3 := hc HB hx357_3
              replace hx357_4 := hc HB hx357_4
              have HR357_4 := Aside0.mk hi357_4
              have HC357_4 := Aside0.mk hl357_4
              clear hi357_4 hl357_4
              replace p357 := eq_true p357
              replace q357 := eq_true q357
              go_wp2_with (first | ((with_reducible refine gate_callee (f := 41) rfl ?_); refine goesL_ (some 76) rfl rfl Try.func41 (by kernel_rfl) rfl #[.agg #[.int .i64 ((rd_T42 l0_7 x6_3).f0.f0), .int .i64 ((rd_T42 l0_7 x6_3).f0.f1), .int .i64 ((rd_T42 l0_7 x6_3).f0.f2), .int .i64 ((rd_T42 l0_7 x6_3).f0.f3), .slice A357_4 ((rd_T42 l0_7 x6_3).f1).length c357_4], .int .i64 65536] rfl upL ?_; (with_reducible refine (waveletref02_Bounded.calls k3 ((rd_T42 l0_7 x6_3).f0.f0) ((rd_T42 l0_7 x6_3).f0.f1) ((rd_T42 l0_7 x6_3).f0.f2) ((rd_T42 l0_7 x6_3).f0.f3) _ _ ((rd_T42 l0_7 x6_3).f1) 65536 true _ ?side1 ?side2 A49.out).mono ?_); (case side1 => repeat (first | exact (Kd.C_below HR357_4.out HB.out) | (with_reducible refine Kd.C_alloc ?_ _) | (with_reducible refine Kd.C_drewN ?_ _) | (with_reducible refine Kd.C_drew ?_))); (case side2 => exact HC357_4.out); rintro e w56 ⟨rfl, hb⟩; refine ⟨_, rfl, ?_⟩; replace BK349 := Aside0.mk (blk_below BK349.out hb); replace BK350 := Aside0.mk (blk_below BK350.out hb); replace HB := Aside0.mk (below_step HB.out hb); (try clear hb; try clear hb2; try clear hk; try clear hi); obtain ⟨hcz57_0, hcz57_1, hcz57_2, hcz57_3, hcz57_4, hcz57_5, hcz57_6, hcz57_7, hfz57_0, hfz57_1, hfz57_2, hfz57_3, hfz57_4, hfz57_5, hfz57_6, hfz57_7⟩ := blk_all8 BK350.out; have p359 : 0 ≤ (x6_3 : Int) := of_decide_eq_true (by first | (with_reducible assumption) | assumption); have q359 : x6_3 < (l1_7.length : Int) := of_decide_eq_true (by first | (with_reducible assumption) | assumption); obtain ⟨ad359, A359_4, c359_4, e359, hx359_0, hx359_1, hx359_2, hx359_3, hx359_4, hl359_4, hi359_4⟩ := at_T42 HR1_7.out x6_3 p359 q359; cases e359; replace hx359_0 := hc HB hx359_0; replace hx359_1 := hc HB hx359_1; replace hx359_2 := hc HB hx359_2; replace hx359_3 := hc HB hx359_3; replace hx359_4 := hc HB hx359_4; have HR359_4 := Aside0.mk hi359_4; have HC359_4 := Aside0.mk hl359_4; clear hi359_4 hl359_4; replace p359 := eq_true p359; replace q359 := eq_true q359) | (go_at_call 41; (with_reducible refine (waveletref02_Bounded.calls k3 ((rd_T42 l1_7 x6_3).f0.f0) ((rd_T42 l1_7 x6_3).f0.f1) ((rd_T42 l1_7 x6_3).f0.f2) ((rd_T42 l1_7 x6_3).f0.f3) _ _ ((rd_T42 l1_7 x6_3).f1) 65536 true _ ?side1 ?side2 A52.out).mono ?_); (case side1 => repeat (first | exact (Kd.C_below HR359_4.out HB.out) | (with_reducible refine Kd.C_alloc ?_ _) | (with_reducible refine Kd.C_drewN ?_ _) | (with_reducible refine Kd.C_drew ?_))); (case side2 => exact HC359_4.out); rintro e w58 ⟨rfl, hb⟩; replace BK349 := Aside0.mk (blk_below BK349.out hb); replace BK350 := Aside0.mk (blk_below BK350.out hb); replace HB := Aside0.mk (below_step HB.out hb); (try clear hb; try clear hb2; try clear hk; try clear hi)))
              go_roundg k3
              case measure => have := HJ2.out; have := HK2.out; have := HK3.out; omega
              case rel => exact ⟨(wrap64 (x6_3 + 1)), (by first | rfl | (simp; done) | (simp [*]; done)), H', ⟨by have := HJ2.out; have := HK2.out; have := HK3.out; omega⟩, ⟨BK349.out⟩, ⟨BK350.out⟩, ⟨HB.out⟩⟩
             ·replace c53 := Bool.eq_false_iff.mpr c53
              subst c53
              rw [if_neg (show ¬ (false = true) by decide)] at H
              obtain rfl := Option.some.inj H
              have hnb59 := NB349_350.out
              have hnc59 := NB350_349.out
              obtain ⟨hcz60_0, hcz60_1, hcz60_2, hcz60_3, hcz60_4, hcz60_5, hcz60_6, hcz60_7, hfz60_0, hfz60_1, hfz60_2, hfz60_3, hfz60_4, hfz60_5, hfz60_6, hfz60_7⟩ := blk_all8 BK349.out
              have p357 : 0 ≤ (x6_3 : Int) := of_decide_eq_true (by first | (with_reducible assumption) | assumption)
              have q357 : x6_3 < (l0_7.length : Int) := of_decide_eq_true (by first | (with_reducible assumption) | assumption)
              obtain ⟨ad357, A357_4, c357_4, e357, hx357_0, hx357_1, hx357_2, hx357_3, hx357_4, hl357_4, hi357_4⟩ := at_T42 HR0_7.out x6_3 p357 q357
              cases e357
              replace hx357_0 := hc HB hx357_0
              replace hx357_1 := hc HB hx357_1
              replace hx357_2 := hc HB hx357_2
              replace hx357_3 := hc HB hx357_3
              replace hx357_4 := hc HB hx357_4
              have HR357_4 := Aside0.mk hi357_4
              have HC357_4 := Aside0.mk hl357_4
              clear hi357_4 hl357_4
              replace p357 := eq_true p357
              replace q357 := eq_true q357
              go_wp2_with (first | ((with_reducible refine gate_callee (f := 41) rfl ?_); refine goesL_ (some 76) rfl rfl Try.func41 (by kernel_rfl) rfl #[.agg #[.int .i64 ((rd_T42 l0_7 x6_3).f0.f0), .int .i64 ((rd_T42 l0_7 x6_3).f0.f1), .int .i64 ((rd_T42 l0_7 x6_3).f0.f2), .int .i64 ((rd_T42 l0_7 x6_3).f0.f3), .slice A357_4 ((rd_T42 l0_7 x6_3).f1).length c357_4], .int .i64 65536] rfl upL ?_; (with_reducible refine (waveletref02_Bounded.calls k3 ((rd_T42 l0_7 x6_3).f0.f0) ((rd_T42 l0_7 x6_3).f0.f1) ((rd_T42 l0_7 x6_3).f0.f2) ((rd_T42 l0_7 x6_3).f0.f3) _ _ ((rd_T42 l0_7 x6_3).f1) 65536 true _ ?side1 ?side2 A49.out).mono ?_); (case side1 => repeat (first | exact (Kd.C_below HR357_4.out HB.out) | (with_reducible refine Kd.C_alloc ?_ _) | (with_reducible refine Kd.C_drewN ?_ _) | (with_reducible refine Kd.C_drew ?_))); (case side2 => exact HC357_4.out); rintro e w61 ⟨rfl, hb⟩; refine ⟨_, rfl, ?_⟩; replace BK349 := Aside0.mk (blk_below BK349.out hb); replace BK350 := Aside0.mk (blk_below BK350.out hb); replace HB := Aside0.mk (below_step HB.out hb); (try clear hb; try clear hb2; try clear hk; try clear hi); obtain ⟨hcz62_0, hcz62_1, hcz62_2, hcz62_3, hcz62_4, hcz62_5, hcz62_6, hcz62_7, hfz62_0, hfz62_1, hfz62_2, hfz62_3, hfz62_4, hfz62_5, hfz62_6, hfz62_7⟩ := blk_all8 BK350.out; have p359 : 0 ≤ (x6_3 : Int) := of_decide_eq_true (by first | (with_reducible assumption) | assumption); have q359 : x6_3 < (l1_7.length : Int) := of_decide_eq_true (by first | (with_reducible assumption) | assumption); obtain ⟨ad359, A359_4, c359_4, e359, hx359_0, hx359_1, hx359_2, hx359_3, hx359_4, hl359_4, hi359_4⟩ := at_T42 HR1_7.out x6_3 p359 q359; cases e359; replace hx359_0 := hc HB hx359_0; replace hx359_1 := hc HB hx359_1; replace hx359_2 := hc HB hx359_2; replace hx359_3 := hc HB hx359_3; replace hx359_4 := hc HB hx359_4; have HR359_4 := Aside0.mk hi359_4; have HC359_4 := Aside0.mk hl359_4; clear hi359_4 hl359_4; replace p359 := eq_true p359; replace q359 := eq_true q359) | (go_at_call 41; (with_reducible refine (waveletref02_Bounded.calls k3 ((rd_T42 l1_7 x6_3).f0.f0) ((rd_T42 l1_7 x6_3).f0.f1) ((rd_T42 l1_7 x6_3).f0.f2) ((rd_T42 l1_7 x6_3).f0.f3) _ _ ((rd_T42 l1_7 x6_3).f1) 65536 false _ ?side1 ?side2 A52.out).mono ?_); (case side1 => repeat (first | exact (Kd.C_below HR359_4.out HB.out) | (with_reducible refine Kd.C_alloc ?_ _) | (with_reducible refine Kd.C_drewN ?_ _) | (with_reducible refine Kd.C_drew ?_))); (case side2 => exact HC359_4.out); rintro e w63 ⟨rfl, hb⟩; replace BK349 := Aside0.mk (blk_below BK349.out hb); replace BK350 := Aside0.mk (blk_below BK350.out hb); replace HB := Aside0.mk (below_step HB.out hb); (try clear hb; try clear hb2; try clear hk; try clear hi)))
              go_ret
              exact ⟨by first | rfl | (simp [errW_none, errW_some] <;> rfl) | (simp [*, errW_none, errW_some] <;> rfl), HB.out⟩
            ·rw [if_neg c51] at H
             exact absurd H (by simp)
           ·replace c50 := Bool.eq_false_iff.mpr c50
            subst c50
            rw [if_neg (show ¬ (false = true) by decide)] at H
            obtain rfl := Option.some.inj H
            have hnb64 := NB349_350.out
            have hnc64 := NB350_349.out
            obtain ⟨hcz65_0, hcz65_1, hcz65_2, hcz65_3, hcz65_4, hcz65_5, hcz65_6, hcz65_7, hfz65_0, hfz65_1, hfz65_2, hfz65_3, hfz65_4, hfz65_5, hfz65_6, hfz65_7⟩ := blk_all8 BK349.out
            have p357 : 0 ≤ (x6_3 : Int) := of_decide_eq_true (by first | (with_reducible assumption) | assumption)
            have q357 : x6_3 < (l0_7.length : Int) := of_decide_eq_true (by first | (with_reducible assumption) | assumption)
            obtain ⟨ad357, A357_4, c357_4, e357, hx357_0, hx357_1, hx357_2, hx357_3, hx357_4, hl357_4, hi357_4⟩ := at_T42 HR0_7.out x6_3 p357 q357
            cases e357
            replace hx357_0 := hc HB hx357_0
            replace hx357_1 := hc HB hx357_1
            replace hx357_2 := hc HB hx357_2
            replace hx357_3 := hc HB hx357_3
            replace hx357_4 := hc HB hx357_4
            have HR357_4 := Aside0.mk hi357_4
            have HC357_4 := Aside0.mk hl357_4
            clear hi357_4 hl357_4
            replace p357 := eq_true p357
            replace q357 := eq_true q357
            go_wp2_with (first | ((with_reducible refine gate_callee (f := 41) rfl ?_); refine goesL_ (some 76) rfl rfl Try.func41 (by kernel_rfl) rfl #[.agg #[.int .i64 ((rd_T42 l0_7 x6_3).f0.f0), .int .i64 ((rd_T42 l0_7 x6_3).f0.f1), .int .i64 ((rd_T42 l0_7 x6_3).f0.f2), .int .i64 ((rd_T42 l0_7 x6_3).f0.f3), .slice A357_4 ((rd_T42 l0_7 x6_3).f1).length c357_4], .int .i64 65536] rfl upL ?_; (with_reducible refine (waveletref02_Bounded.calls k3 ((rd_T42 l0_7 x6_3).f0.f0) ((rd_T42 l0_7 x6_3).f0.f1) ((rd_T42 l0_7 x6_3).f0.f2) ((rd_T42 l0_7 x6_3).f0.f3) _ _ ((rd_T42 l0_7 x6_3).f1) 65536 false _ ?side1 ?side2 A49.out).mono ?_); (case side1 => repeat (first | exact (Kd.C_below HR357_4.out HB.out) | (with_reducible refine Kd.C_alloc ?_ _) | (with_reducible refine Kd.C_drewN ?_ _) | (with_reducible refine Kd.C_drew ?_))); (case side2 => exact HC357_4.out); rintro e w66 ⟨rfl, hb⟩; refine ⟨_, rfl, ?_⟩; replace BK349 := Aside0.mk (blk_below BK349.out hb); replace BK350 := Aside0.mk (blk_below BK350.out hb); replace HB := Aside0.mk (below_step HB.out hb); (try clear hb; try clear hb2; try clear hk; try clear hi)))
            go_ret
            exact ⟨by first | rfl | (simp [errW_none, errW_some] <;> rfl) | (simp [*, errW_none, errW_some] <;> rfl), HB.out⟩
          ·rw [if_neg c48] at H
           exact absurd H (by simp)
         ·rw [if_neg c47] at H
          have c47b0 : decide (x6_3 < (l0_7.length : Int)) = false := decide_eq_false c47
          clear c47
          obtain rfl := Option.some.inj H
          have hnb67 := NB349_350.out
          have hnc67 := NB350_349.out
          obtain ⟨hcz68_0, hcz68_1, hcz68_2, hcz68_3, hcz68_4, hcz68_5, hcz68_6, hcz68_7, hfz68_0, hfz68_1, hfz68_2, hfz68_3, hfz68_4, hfz68_5, hfz68_6, hfz68_7⟩ := blk_all8 BK349.out
          go_wp2
          go_ret
          exact ⟨by first | rfl | (simp [errW_none, errW_some] <;> rfl) | (simp [*, errW_none, errW_some] <;> rfl), HB.out⟩

end Go.Proofs.Ytfihdlekeainpaa.Q
