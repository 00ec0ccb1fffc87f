-- By a program of this session (wip/tools/mk.py), out of the kit's print of the translation; Lean checks it.
import Derived.Test.YtfihdlekeainpaaUp2
import Derived.Test.YtfihdlekeainpaaUp
import Derived.Test.YtfihdlekeainpaaShort
import Derived.Test.YtfihdlekeainpaaQ0
import Derived.Test.YtfihdlekeainpaaQ2
import Derived.Test.YtfihdlekeainpaaQ10
import Derived.Test.YtfihdlekeainpaaQ11
import Derived.Test.YtfihdlekeainpaaQ23
import Derived.Test.YtfihdlekeainpaaQ32
import Derived.Test.YtfihdlekeainpaaQ35
namespace Go.Proofs.Ytfihdlekeainpaa.Q
open Go.RowKit Go.Proofs.YtfihdlekeainpaaW.PrintWords Go.Proofs.YtfihdlekeainpaaW.PrintLast Go.Proofs.YtfihdlekeainpaaW.PrintMore
attribute [local go_sem] max2_int min2_int max_two min_two max_three min_three max_four min_four   -- for this text's walks alone
set_option linter.unusedVariables false
set_option linter.unusedSimpArgs false

/-! ### waveletlaw50_MetricsCompares: function 4 -/
def waveletlaw50_MetricsCompares.j0 : Nat → Bool → Int → Int → Int → Int → Int → Int → List (S51) → List (S42) → Int → Int → Int → Int → Int → Int → List (S51) → List (S42) → Int → Int → Int → Int → Int → Int → List (S51) → List (S42) → Option (Bool)
 | 0, _, _, _, _, _, _, _, _, _, _, _, _, _, _, _, _, _, _, _, _, _, _, _, _, _ => none
 | k + 1, x23, x412000, x412001, x412002, x412003, x412004, x412005, x412006, x412007, x413000, x413001, x413002, x413003, x413004, x413005, x413006, x413007, x414000, x414001, x414002, x414003, x414004, x414005, x414006, x414007 => if x23 = true then ((waveletlaw50_exampleHolds.f k).bind fun t417 => (some t417)) else ((metrics_Closer.f k x412000 x412001 x412002 x412003 x412004 x412005 x412006 x412007 x413000 x413001 x413002 x413003 x413004 x413005 x413006 x413007 x414000 x414001 x414002 x414003 x414004 x414005 x414006 x414007).bind fun bt418 => ((waveletref50_Closer.f k x412000 x412001 x412002 x412003 x412004 x412005 x412006 x412007 x413000 x413001 x413002 x413003 x413004 x413005 x413006 x413007 x414000 x414001 x414002 x414003 x414004 x414005 x414006 x414007).bind fun bt420 => (if bt418.1 = bt420.1 then (if bt418.2 = bt420.2 then ((metrics_Equal.f k x413000 x413001 x413002 x413003 x413004 x413005 x413006 x413007 x414000 x414001 x414002 x414003 x414004 x414005 x414006 x414007).bind fun t422 => ((waveletref50_Equal.f k x413000 x413001 x413002 x413003 x413004 x413005 x413006 x413007 x414000 x414001 x414002 x414003 x414004 x414005 x414006 x414007).bind fun t423 => (if (t422 == t423) = true then ((metrics_Equal.f k x412000 x412001 x412002 x412003 x412004 x412005 x412006 x412007 x413000 x413001 x413002 x413003 x413004 x413005 x413006 x413007).bind fun t424 => ((waveletref50_Equal.f k x412000 x412001 x412002 x412003 x412004 x412005 x412006 x412007 x413000 x413001 x413002 x413003 x413004 x413005 x413006 x413007).bind fun t425 => (if (t424 == t425) = true then ((waveletlaw50_exampleHolds.f k).bind fun t426 => (some t426)) else (some false)))) else (some false)))) else (some false)) else (some false))))
def waveletlaw50_MetricsCompares.f (k : Nat) (a0_0 : Int) (a0_1 : Int) (a0_2 : Int) (a0_3 : Int) (a0_4 : Int) (a0_5 : Int) (l0_6 : List (S51)) (l0_7 : List (S42)) (a1_0 : Int) (a1_1 : Int) (a1_2 : Int) (a1_3 : Int) (a1_4 : Int) (a1_5 : Int) (l1_6 : List (S51)) (l1_7 : List (S42)) (a2_0 : Int) (a2_1 : Int) (a2_2 : Int) (a2_3 : Int) (a2_4 : Int) (a2_5 : Int) (l2_6 : List (S51)) (l2_7 : List (S42)) : Option (Bool) := (waveletref50_Few.f k a0_0 a0_1 a0_2 a0_3 a0_4 a0_5 l0_6 l0_7).bind fun t414 => (if t414 = true then ((waveletref50_Few.f k a1_0 a1_1 a1_2 a1_3 a1_4 a1_5 l1_6 l1_7).bind fun t415 => (if t415 = true then ((waveletref50_Few.f k a2_0 a2_1 a2_2 a2_3 a2_4 a2_5 l2_6 l2_7).bind fun t416 => (waveletlaw50_MetricsCompares.j0 k (!t416) a0_0 a0_1 a0_2 a0_3 a0_4 a0_5 l0_6 l0_7 a1_0 a1_1 a1_2 a1_3 a1_4 a1_5 l1_6 l1_7 a2_0 a2_1 a2_2 a2_3 a2_4 a2_5 l2_6 l2_7)) else (waveletlaw50_MetricsCompares.j0 k true a0_0 a0_1 a0_2 a0_3 a0_4 a0_5 l0_6 l0_7 a1_0 a1_1 a1_2 a1_3 a1_4 a1_5 l1_6 l1_7 a2_0 a2_1 a2_2 a2_3 a2_4 a2_5 l2_6 l2_7))) else (waveletlaw50_MetricsCompares.j0 k true a0_0 a0_1 a0_2 a0_3 a0_4 a0_5 l0_6 l0_7 a1_0 a1_1 a1_2 a1_3 a1_4 a1_5 l1_6 l1_7 a2_0 a2_1 a2_2 a2_3 a2_4 a2_5 l2_6 l2_7))
theorem waveletlaw50_MetricsCompares.mono_l : ∀ k, (∀ y0 y1 y2 y3 y4 y5 y6 y7 y8 y9 y10 y11 y12 y13 y14 y15 y16 y17 y18 y19 y20 y21 y22 y23 y24, LeO (waveletlaw50_MetricsCompares.j0 k y0 y1 y2 y3 y4 y5 y6 y7 y8 y9 y10 y11 y12 y13 y14 y15 y16 y17 y18 y19 y20 y21 y22 y23 y24) (waveletlaw50_MetricsCompares.j0 (k + 1) y0 y1 y2 y3 y4 y5 y6 y7 y8 y9 y10 y11 y12 y13 y14 y15 y16 y17 y18 y19 y20 y21 y22 y23 y24))
 | 0 => fun _ _ _ _ _ _ _ _ _ _ _ _ _ _ _ _ _ _ _ _ _ _ _ _ _ r h => by simp [waveletlaw50_MetricsCompares.j0] at h
 | k + 1 => by
  have ih0 := waveletlaw50_MetricsCompares.mono_l k
  ·intro y0 y1 y2 y3 y4 y5 y6 y7 y8 y9 y10 y11 y12 y13 y14 y15 y16 y17 y18 y19 y20 y21 y22 y23 y24
   unfold waveletlaw50_MetricsCompares.j0
   repeat' first
   | (with_reducible exact ih0 _ _ _ _ _ _ _ _ _ _ _ _ _ _ _ _ _ _ _ _ _ _ _ _ _)
   | (with_reducible exact metrics_Closer.mono _ _ _ _ _ _ _ _ _ _ _ _ _ _ _ _ _ _ _ _ _ _ _ _ _)
   | (with_reducible exact metrics_Equal.mono _ _ _ _ _ _ _ _ _ _ _ _ _ _ _ _ _)
   | (with_reducible exact waveletlaw50_exampleHolds.mono _)
   | (with_reducible exact waveletref50_Closer.mono _ _ _ _ _ _ _ _ _ _ _ _ _ _ _ _ _ _ _ _ _ _ _ _ _)
   | (with_reducible exact waveletref50_Equal.mono _ _ _ _ _ _ _ _ _ _ _ _ _ _ _ _ _)
   | (with_reducible exact waveletref50_Few.mono _ _ _ _ _ _ _ _ _)
   | (with_reducible exact LeO.refl _)
   | (with_reducible exact LeO.none _)
   | (with_reducible refine LeO.ite ?_ ?_)
   | (with_reducible refine LeO.bind ?_ (fun _ => ?_))
   | exact ih0 _ _ _ _ _ _ _ _ _ _ _ _ _ _ _ _ _ _ _ _ _ _ _ _ _
   | exact metrics_Closer.mono _ _ _ _ _ _ _ _ _ _ _ _ _ _ _ _ _ _ _ _ _ _ _ _ _
   | exact metrics_Equal.mono _ _ _ _ _ _ _ _ _ _ _ _ _ _ _ _ _
   | exact waveletlaw50_exampleHolds.mono _
   | exact waveletref50_Closer.mono _ _ _ _ _ _ _ _ _ _ _ _ _ _ _ _ _ _ _ _ _ _ _ _ _
   | exact waveletref50_Equal.mono _ _ _ _ _ _ _ _ _ _ _ _ _ _ _ _ _
   | exact waveletref50_Few.mono _ _ _ _ _ _ _ _ _
   | exact LeO.none _
   | refine LeO.ite ?_ ?_
   | refine LeO.bind ?_ (fun _ => ?_)
theorem waveletlaw50_MetricsCompares.mono : ∀ a0 a1 a2 a3 a4 a5 a6 a7 a8 a9 a10 a11 a12 a13 a14 a15 a16 a17 a18 a19 a20 a21 a22 a23 k, LeO (waveletlaw50_MetricsCompares.f k a0 a1 a2 a3 a4 a5 a6 a7 a8 a9 a10 a11 a12 a13 a14 a15 a16 a17 a18 a19 a20 a21 a22 a23) (waveletlaw50_MetricsCompares.f (k + 1) a0 a1 a2 a3 a4 a5 a6 a7 a8 a9 a10 a11 a12 a13 a14 a15 a16 a17 a18 a19 a20 a21 a22 a23) := by
 intro a0 a1 a2 a3 a4 a5 a6 a7 a8 a9 a10 a11 a12 a13 a14 a15 a16 a17 a18 a19 a20 a21 a22 a23 k
 have ih0 := waveletlaw50_MetricsCompares.mono_l k
 unfold waveletlaw50_MetricsCompares.f
 repeat' first
   | (with_reducible exact ih0 _ _ _ _ _ _ _ _ _ _ _ _ _ _ _ _ _ _ _ _ _ _ _ _ _)
   | (with_reducible exact metrics_Closer.mono _ _ _ _ _ _ _ _ _ _ _ _ _ _ _ _ _ _ _ _ _ _ _ _ _)
   | (with_reducible exact metrics_Equal.mono _ _ _ _ _ _ _ _ _ _ _ _ _ _ _ _ _)
   | (with_reducible exact waveletlaw50_exampleHolds.mono _)
   | (with_reducible exact waveletref50_Closer.mono _ _ _ _ _ _ _ _ _ _ _ _ _ _ _ _ _ _ _ _ _ _ _ _ _)
   | (with_reducible exact waveletref50_Equal.mono _ _ _ _ _ _ _ _ _ _ _ _ _ _ _ _ _)
   | (with_reducible exact waveletref50_Few.mono _ _ _ _ _ _ _ _ _)
   | (with_reducible exact LeO.refl _)
   | (with_reducible exact LeO.none _)
   | (with_reducible refine LeO.ite ?_ ?_)
   | (with_reducible refine LeO.bind ?_ (fun _ => ?_))
   | exact ih0 _ _ _ _ _ _ _ _ _ _ _ _ _ _ _ _ _ _ _ _ _ _ _ _ _
   | exact metrics_Closer.mono _ _ _ _ _ _ _ _ _ _ _ _ _ _ _ _ _ _ _ _ _ _ _ _ _
   | exact metrics_Equal.mono _ _ _ _ _ _ _ _ _ _ _ _ _ _ _ _ _
   | exact waveletlaw50_exampleHolds.mono _
   | exact waveletref50_Closer.mono _ _ _ _ _ _ _ _ _ _ _ _ _ _ _ _ _ _ _ _ _ _ _ _ _
   | exact waveletref50_Equal.mono _ _ _ _ _ _ _ _ _ _ _ _ _ _ _ _ _
   | exact waveletref50_Few.mono _ _ _ _ _ _ _ _ _
   | exact LeO.none _
   | refine LeO.ite ?_ ?_
   | refine LeO.bind ?_ (fun _ => ?_)
def waveletlaw50_MetricsCompares.T5 : Bool × List (List Nat × List Nat) := (true, [([], []), ([], []), ([0, 1], [0, 1]), ([2], [2]), ([3], [3]), ([3], [3]), ([4, 5, 3], [3, 4, 5]), ([3, 6], [3, 6]), ([7, 3], [7]), ([8], [8]), ([8], [8]), ([9, 10, 8, 8], [8, 9, 10]), ([8], [8]), ([8], [8]), ([12, 13, 11, 8], [8, 12, 13]), ([11, 14, 8], [8, 11, 14]), ([8, 15], [8, 15]), ([16, 14], [16]), ([17], [17]), ([17], [17]), ([18, 19, 17, 17], [17, 18, 19]), ([17], [17]), ([17], [17]), ([21, 22, 20, 17], [17, 21, 22]), ([20, 23, 17], [17, 20, 23]), ([17, 24], [17, 24]), ([25, 23], [25]), ([26, 26], [26]), ([26, 27], [26, 27]), ([28, 27, 0, 1, 2, 3, 4, 5, 6, 7, 8, 9, 10, 11, 12, 13, 14, 15, 16, 17, 18, 19, 20, 21, 22, 23, 24, 25, 26, 27, 28], [28])])
def waveletlaw50_MetricsCompares.B5 : List Nat := [0, 0, 3, 7, 15, 15, 63, 127, 255, 511, 511, 2047, 511, 511, 16383, 32767, 65535, 131071, 262143, 262143, 1048575, 262143, 262143, 8388607, 16777215, 33554431, 67108863, 134217727, 268435455, 536870911]
theorem waveletlaw50_MetricsCompares.tab5 : rtab .any (opsOf Try.f4 5) = waveletlaw50_MetricsCompares.T5 := by kernel_rfl
theorem waveletlaw50_MetricsCompares.bits5 : waitsOk waveletlaw50_MetricsCompares.T5.2 waveletlaw50_MetricsCompares.B5 = true := by kernel_rfl
set_option maxHeartbeats 8000000 in
set_option maxRecDepth 100000 in
theorem waveletlaw50_MetricsCompares.calls (k : Nat) (a0_0 : Int) (a0_1 : Int) (a0_2 : Int) (a0_3 : Int) (a0_4 : Int) (a0_5 : Int) (A0_6 : Option Addr) (c0_6 : Nat) (l0_6 : List (S51)) (A0_7 : Option Addr) (c0_7 : Nat) (l0_7 : List (S42)) (a1_0 : Int) (a1_1 : Int) (a1_2 : Int) (a1_3 : Int) (a1_4 : Int) (a1_5 : Int) (A1_6 : Option Addr) (c1_6 : Nat) (l1_6 : List (S51)) (A1_7 : Option Addr) (c1_7 : Nat) (l1_7 : List (S42)) (a2_0 : Int) (a2_1 : Int) (a2_2 : Int) (a2_3 : Int) (a2_4 : Int) (a2_5 : Int) (A2_6 : Option Addr) (c2_6 : Nat) (l2_6 : List (S51)) (A2_7 : Option Addr) (c2_7 : Nat) (l2_7 : List (S42)) (r : Bool) (hr_ : r = true) (w : World) (hr0_6 : Kd.C k51 w A0_6 l0_6.length l0_6) (hc0_6 : l0_6.length ≤ c0_6) (hr0_7 : Kd.C k42 w A0_7 l0_7.length l0_7) (hc0_7 : l0_7.length ≤ c0_7) (hr1_6 : Kd.C k51 w A1_6 l1_6.length l1_6) (hc1_6 : l1_6.length ≤ c1_6) (hr1_7 : Kd.C k42 w A1_7 l1_7.length l1_7) (hc1_7 : l1_7.length ≤ c1_7) (hr2_6 : Kd.C k51 w A2_6 l2_6.length l2_6) (hc2_6 : l2_6.length ≤ c2_6) (hr2_7 : Kd.C k42 w A2_7 l2_7.length l2_7) (hc2_7 : l2_7.length ≤ c2_7) (h : waveletlaw50_MetricsCompares.f k a0_0 a0_1 a0_2 a0_3 a0_4 a0_5 l0_6 l0_7 a1_0 a1_1 a1_2 a1_3 a1_4 a1_5 l1_6 l1_7 a2_0 a2_1 a2_2 a2_3 a2_4 a2_5 l2_6 l2_7 = some r) :
  Calls Try.prog 4 #[.agg #[.int .i64 a0_0, .int .i64 a0_1, .int .i64 a0_2, .int .i64 a0_3, .int .i64 a0_4, .int .i64 a0_5, .slice A0_6 l0_6.length c0_6, .slice A0_7 l0_7.length c0_7], .agg #[.int .i64 a1_0, .int .i64 a1_1, .int .i64 a1_2, .int .i64 a1_3, .int .i64 a1_4, .int .i64 a1_5, .slice A1_6 l1_6.length c1_6, .slice A1_7 l1_7.length c1_7], .agg #[.int .i64 a2_0, .int .i64 a2_1, .int .i64 a2_2, .int .i64 a2_3, .int .i64 a2_4, .int .i64 a2_5, .slice A2_6 l2_6.length c2_6, .slice A2_7 l2_7.length c2_7]] w fun e w' => e = .returned (.bool r) ∧ Below w.heap.size w w' := by
 have hu29 := Try.underlying29
 have HR0_6 := Aside0.mk hr0_6
 have HC0_6 := Aside0.mk hc0_6
 clear hr0_6 hc0_6
 have HR0_7 := Aside0.mk hr0_7
 have HC0_7 := Aside0.mk hc0_7
 clear hr0_7 hc0_7
 have HR1_6 := Aside0.mk hr1_6
 have HC1_6 := Aside0.mk hc1_6
 clear hr1_6 hc1_6
 have HR1_7 := Aside0.mk hr1_7
 have HC1_7 := Aside0.mk hc1_7
 clear hr1_7 hc1_7
 have HR2_6 := Aside0.mk hr2_6
 have HC2_6 := Aside0.mk hc2_6
 clear hr2_6 hc2_6
 have HR2_7 := Aside0.mk hr2_7
 have HC2_7 := Aside0.mk hc2_7
 clear hr2_7 hc2_7
 have HB := Aside0.mk (Below.refl w.heap.size w)
 have H : ((waveletref50_Few.f k a0_0 a0_1 a0_2 a0_3 a0_4 a0_5 l0_6 l0_7).bind fun t414 => (if t414 = true then ((waveletref50_Few.f k a1_0 a1_1 a1_2 a1_3 a1_4 a1_5 l1_6 l1_7).bind fun t415 => (if t415 = true then ((waveletref50_Few.f k a2_0 a2_1 a2_2 a2_3 a2_4 a2_5 l2_6 l2_7).bind fun t416 => (waveletlaw50_MetricsCompares.j0 k (!t416) a0_0 a0_1 a0_2 a0_3 a0_4 a0_5 l0_6 l0_7 a1_0 a1_1 a1_2 a1_3 a1_4 a1_5 l1_6 l1_7 a2_0 a2_1 a2_2 a2_3 a2_4 a2_5 l2_6 l2_7)) else (waveletlaw50_MetricsCompares.j0 k true a0_0 a0_1 a0_2 a0_3 a0_4 a0_5 l0_6 l0_7 a1_0 a1_1 a1_2 a1_3 a1_4 a1_5 l1_6 l1_7 a2_0 a2_1 a2_2 a2_3 a2_4 a2_5 l2_6 l2_7))) else (waveletlaw50_MetricsCompares.j0 k true a0_0 a0_1 a0_2 a0_3 a0_4 a0_5 l0_6 l0_7 a1_0 a1_1 a1_2 a1_3 a1_4 a1_5 l1_6 l1_7 a2_0 a2_1 a2_2 a2_3 a2_4 a2_5 l2_6 l2_7))) = some r := h
 clear h
 have HC4 := Aside0.mk H
 clear H
 go_enter Try.func4, Try.ntmps4
 go_upto_region 1 with (first | ((with_reducible refine gate_dst (N := 3) rfl ?_); refine box_event ?hg (N := 3) ?hd (cs := #[.int .i64 a0_0, .int .i64 a0_1, .int .i64 a0_2, .int .i64 a0_3, .int .i64 a0_4, .int .i64 a0_5, .slice A0_6 l0_6.length c0_6, .slice A0_7 l0_7.length c0_7]) (t := 29) ?hr ?_; (case hd => rfl); (case hg => rfl); (case hr => first | (go_simp; done) | (go_simp; rfl)); intro gb411 hg w5 hbox hb; have BK411 := Aside0.mk (hbox); have GW411 := Aside0.mk ((by rw [hg]; exact (below_size HB.out) : w.heap.size ≤ gb411)); have GE411 := Aside0.mk ((by rw [hg]; exact (below_size HB.out) : w.heap.size ≤ gb411)); replace HB := Aside0.mk (below_step HB.out hb); clear hb hbox hg) | ((with_reducible refine gate_dst (N := 4) rfl ?_); refine box_event ?hg (N := 4) ?hd (cs := #[.int .i64 a1_0, .int .i64 a1_1, .int .i64 a1_2, .int .i64 a1_3, .int .i64 a1_4, .int .i64 a1_5, .slice A1_6 l1_6.length c1_6, .slice A1_7 l1_7.length c1_7]) (t := 29) ?hr ?_; (case hd => rfl); (case hg => rfl); (case hr => first | (go_simp; done) | (go_simp; rfl)); intro gb412 hg w6 hbox hb; have BK412 := Aside0.mk (hbox); have GW412 := Aside0.mk ((by rw [hg]; exact (below_size HB.out) : w.heap.size ≤ gb412)); have GE412 := Aside0.mk ((by rw [hg]; exact (below_size HB.out) : w.heap.size ≤ gb412)); replace HB := Aside0.mk (below_step HB.out hb); have NB411_412 := Aside0.mk ((by rw [hg]; exact Nat.ne_of_lt (blk_lt (g := gb411) (o := .cells #[.int .i64 a0_0, .int .i64 a0_1, .int .i64 a0_2, .int .i64 a0_3, .int .i64 a0_4, .int .i64 a0_5, .slice A0_6 l0_6.length c0_6, .slice A0_7 l0_7.length c0_7] 29 (0, 0)) BK411.out) : gb411 ≠ gb412)); have NB412_411 := Aside0.mk ((by rw [hg]; exact Nat.ne_of_gt (blk_lt (g := gb411) (o := .cells #[.int .i64 a0_0, .int .i64 a0_1, .int .i64 a0_2, .int .i64 a0_3, .int .i64 a0_4, .int .i64 a0_5, .slice A0_6 l0_6.length c0_6, .slice A0_7 l0_7.length c0_7] 29 (0, 0)) BK411.out) : gb412 ≠ gb411)); replace BK411 := Aside0.mk (blk_below BK411.out hb); clear hb hbox hg) | ((with_reducible refine gate_dst (N := 5) rfl ?_); refine box_event ?hg (N := 5) ?hd (cs := #[.int .i64 a2_0, .int .i64 a2_1, .int .i64 a2_2, .int .i64 a2_3, .int .i64 a2_4, .int .i64 a2_5, .slice A2_6 l2_6.length c2_6, .slice A2_7 l2_7.length c2_7]) (t := 29) ?hr ?_; (case hd => rfl); (case hg => rfl); (case hr => first | (go_simp; done) | (go_simp; rfl)); intro gb413 hg w7 hbox hb; have BK413 := Aside0.mk (hbox); have GW413 := Aside0.mk ((by rw [hg]; exact (below_size HB.out) : w.heap.size ≤ gb413)); have GE413 := Aside0.mk ((by rw [hg]; exact (below_size HB.out) : w.heap.size ≤ gb413)); replace HB := Aside0.mk (below_step HB.out hb); have NB411_413 := Aside0.mk ((by rw [hg]; exact Nat.ne_of_lt (blk_lt (g := gb411) (o := .cells #[.int .i64 a0_0, .int .i64 a0_1, .int .i64 a0_2, .int .i64 a0_3, .int .i64 a0_4, .int .i64 a0_5, .slice A0_6 l0_6.length c0_6, .slice A0_7 l0_7.length c0_7] 29 (0, 0)) BK411.out) : gb411 ≠ gb413)); have NB413_411 := Aside0.mk ((by rw [hg]; exact Nat.ne_of_gt (blk_lt (g := gb411) (o := .cells #[.int .i64 a0_0, .int .i64 a0_1, .int .i64 a0_2, .int .i64 a0_3, .int .i64 a0_4, .int .i64 a0_5, .slice A0_6 l0_6.length c0_6, .slice A0_7 l0_7.length c0_7] 29 (0, 0)) BK411.out) : gb413 ≠ gb411)); replace BK411 := Aside0.mk (blk_below BK411.out hb); have NB412_413 := Aside0.mk ((by rw [hg]; exact Nat.ne_of_lt (blk_lt (g := gb412) (o := .cells #[.int .i64 a1_0, .int .i64 a1_1, .int .i64 a1_2, .int .i64 a1_3, .int .i64 a1_4, .int .i64 a1_5, .slice A1_6 l1_6.length c1_6, .slice A1_7 l1_7.length c1_7] 29 (0, 0)) BK412.out) : gb412 ≠ gb413)); have NB413_412 := Aside0.mk ((by rw [hg]; exact Nat.ne_of_gt (blk_lt (g := gb412) (o := .cells #[.int .i64 a1_0, .int .i64 a1_1, .int .i64 a1_2, .int .i64 a1_3, .int .i64 a1_4, .int .i64 a1_5, .slice A1_6 l1_6.length c1_6, .slice A1_7 l1_7.length c1_7] 29 (0, 0)) BK412.out) : gb413 ≠ gb412)); replace BK412 := Aside0.mk (blk_below BK412.out hb); clear hb hbox hg))
 (try simp only [Act.put, List.setIfInBounds_toArray, List.set_cons_zero, List.set_cons_succ])
 go_cut [23] (fun v23 wc => ∃ (kq : Nat) (x23_3 : Bool), v23 = .bool x23_3 ∧ Aside0 (waveletlaw50_MetricsCompares.j0 kq x23_3 a0_0 a0_1 a0_2 a0_3 a0_4 a0_5 l0_6 l0_7 a1_0 a1_1 a1_2 a1_3 a1_4 a1_5 l1_6 l1_7 a2_0 a2_1 a2_2 a2_3 a2_4 a2_5 l2_6 l2_7 = some r) ∧ Aside0 (kq ≤ k) ∧ Aside0 (wc.heap[gb411]? = some (.cells #[.int .i64 a0_0, .int .i64 a0_1, .int .i64 a0_2, .int .i64 a0_3, .int .i64 a0_4, .int .i64 a0_5, (.slice A0_6 l0_6.length c0_6), (.slice A0_7 l0_7.length c0_7)] 29 (0, 0))) ∧ Aside0 (wc.heap[gb412]? = some (.cells #[.int .i64 a1_0, .int .i64 a1_1, .int .i64 a1_2, .int .i64 a1_3, .int .i64 a1_4, .int .i64 a1_5, (.slice A1_6 l1_6.length c1_6), (.slice A1_7 l1_7.length c1_7)] 29 (0, 0))) ∧ Aside0 (wc.heap[gb413]? = some (.cells #[.int .i64 a2_0, .int .i64 a2_1, .int .i64 a2_2, .int .i64 a2_3, .int .i64 a2_4, .int .i64 a2_5, (.slice A2_6 l2_6.length c2_6), (.slice A2_7 l2_7.length c2_7)] 29 (0, 0))) ∧ Aside0 (Below w.heap.size w wc))
 case first =>
  have H := HC4.out
  clear HC4
  replace H := Option.bind_eq_some_iff.mp H
  obtain ⟨t414, A80, H⟩ := H
  replace H : (if t414 = true then ((waveletref50_Few.f k a1_0 a1_1 a1_2 a1_3 a1_4 a1_5 l1_6 l1_7).bind fun t415 => (if t415 = true then ((waveletref50_Few.f k a2_0 a2_1 a2_2 a2_3 a2_4 a2_5 l2_6 l2_7).bind fun t416 => (waveletlaw50_MetricsCompares.j0 k (!t416) a0_0 a0_1 a0_2 a0_3 a0_4 a0_5 l0_6 l0_7 a1_0 a1_1 a1_2 a1_3 a1_4 a1_5 l1_6 l1_7 a2_0 a2_1 a2_2 a2_3 a2_4 a2_5 l2_6 l2_7)) else (waveletlaw50_MetricsCompares.j0 k true a0_0 a0_1 a0_2 a0_3 a0_4 a0_5 l0_6 l0_7 a1_0 a1_1 a1_2 a1_3 a1_4 a1_5 l1_6 l1_7 a2_0 a2_1 a2_2 a2_3 a2_4 a2_5 l2_6 l2_7))) else (waveletlaw50_MetricsCompares.j0 k true a0_0 a0_1 a0_2 a0_3 a0_4 a0_5 l0_6 l0_7 a1_0 a1_1 a1_2 a1_3 a1_4 a1_5 l1_6 l1_7 a2_0 a2_1 a2_2 a2_3 a2_4 a2_5 l2_6 l2_7)) = some r := H
  have A8 := Aside0.mk A80
  clear A80
  by_cases c9 : t414 = true
  ·subst c9
   rw [if_pos rfl] at H
   replace H := Option.bind_eq_some_iff.mp H
   obtain ⟨t415, A100, H⟩ := H
   replace H : (if t415 = true then ((waveletref50_Few.f k a2_0 a2_1 a2_2 a2_3 a2_4 a2_5 l2_6 l2_7).bind fun t416 => (waveletlaw50_MetricsCompares.j0 k (!t416) a0_0 a0_1 a0_2 a0_3 a0_4 a0_5 l0_6 l0_7 a1_0 a1_1 a1_2 a1_3 a1_4 a1_5 l1_6 l1_7 a2_0 a2_1 a2_2 a2_3 a2_4 a2_5 l2_6 l2_7)) else (waveletlaw50_MetricsCompares.j0 k true a0_0 a0_1 a0_2 a0_3 a0_4 a0_5 l0_6 l0_7 a1_0 a1_1 a1_2 a1_3 a1_4 a1_5 l1_6 l1_7 a2_0 a2_1 a2_2 a2_3 a2_4 a2_5 l2_6 l2_7)) = some r := H
   have A10 := Aside0.mk A100
   clear A100
   by_cases c11 : t415 = true
   ·subst c11
    rw [if_pos rfl] at H
    replace H := Option.bind_eq_some_iff.mp H
    obtain ⟨t416, A120, H⟩ := H
    replace H : (waveletlaw50_MetricsCompares.j0 k (!t416) a0_0 a0_1 a0_2 a0_3 a0_4 a0_5 l0_6 l0_7 a1_0 a1_1 a1_2 a1_3 a1_4 a1_5 l1_6 l1_7 a2_0 a2_1 a2_2 a2_3 a2_4 a2_5 l2_6 l2_7) = some r := H
    have A12 := Aside0.mk A120
    clear A120
    have H' := Aside0.mk H
    clear H
    have hnb13 := NB411_412.out
    have hnc13 := NB412_411.out
    have hnb14 := NB411_413.out
    have hnc14 := NB413_411.out
    obtain ⟨hcz15_0, hcz15_1, hcz15_2, hcz15_3, hcz15_4, hcz15_5, hcz15_6, hcz15_7, hfz15_0, hfz15_1, hfz15_2, hfz15_3, hfz15_4, hfz15_5, hfz15_6, hfz15_7⟩ := blk_all8 BK411.out
    go_wp2_with (first | ((with_reducible refine gate_callee (f := 10) rfl ?_); refine goesL_ (some 12) rfl rfl Try.func10 (by kernel_rfl) rfl #[.agg #[.int .i64 a0_0, .int .i64 a0_1, .int .i64 a0_2, .int .i64 a0_3, .int .i64 a0_4, .int .i64 a0_5, .slice A0_6 l0_6.length c0_6, .slice A0_7 l0_7.length c0_7]] rfl upL ?_; (with_reducible refine (waveletref50_Few.calls k a0_0 a0_1 a0_2 a0_3 a0_4 a0_5 _ _ l0_6 _ _ l0_7 true _ ?side1 ?side2 ?side3 ?side4 A8.out).mono ?_); (case side1 => repeat (first | exact (Kd.C_below HR0_6.out HB.out) | (with_reducible refine Kd.C_alloc ?_ _) | (with_reducible refine Kd.C_drewN ?_ _) | (with_reducible refine Kd.C_drew ?_))); (case side2 => exact HC0_6.out); (case side3 => repeat (first | exact (Kd.C_below HR0_7.out HB.out) | (with_reducible refine Kd.C_alloc ?_ _) | (with_reducible refine Kd.C_drewN ?_ _) | (with_reducible refine Kd.C_drew ?_))); (case side4 => exact HC0_7.out); rintro e w16 ⟨rfl, hb⟩; refine ⟨_, rfl, ?_⟩; replace BK411 := Aside0.mk (blk_below BK411.out hb); replace BK412 := Aside0.mk (blk_below BK412.out hb); replace BK413 := Aside0.mk (blk_below BK413.out hb); replace HB := Aside0.mk (below_step HB.out hb); (try clear hb; try clear hb2; try clear hk; try clear hi); have hnb17 := NB412_413.out; have hnc17 := NB413_412.out; obtain ⟨hcz18_0, hcz18_1, hcz18_2, hcz18_3, hcz18_4, hcz18_5, hcz18_6, hcz18_7, hfz18_0, hfz18_1, hfz18_2, hfz18_3, hfz18_4, hfz18_5, hfz18_6, hfz18_7⟩ := blk_all8 BK412.out) | (go_at_call 10; (with_reducible refine (waveletref50_Few.calls k a1_0 a1_1 a1_2 a1_3 a1_4 a1_5 _ _ l1_6 _ _ l1_7 true _ ?side1 ?side2 ?side3 ?side4 A10.out).mono ?_); (case side1 => repeat (first | exact (Kd.C_below HR1_6.out HB.out) | (with_reducible refine Kd.C_alloc ?_ _) | (with_reducible refine Kd.C_drewN ?_ _) | (with_reducible refine Kd.C_drew ?_))); (case side2 => exact HC1_6.out); (case side3 => repeat (first | exact (Kd.C_below HR1_7.out HB.out) | (with_reducible refine Kd.C_alloc ?_ _) | (with_reducible refine Kd.C_drewN ?_ _) | (with_reducible refine Kd.C_drew ?_))); (case side4 => exact HC1_7.out); rintro e w19 ⟨rfl, hb⟩; replace BK411 := Aside0.mk (blk_below BK411.out hb); replace BK412 := Aside0.mk (blk_below BK412.out hb); replace BK413 := Aside0.mk (blk_below BK413.out hb); replace HB := Aside0.mk (below_step HB.out hb); (try clear hb; try clear hb2; try clear hk; try clear hi); obtain ⟨hcz20_0, hcz20_1, hcz20_2, hcz20_3, hcz20_4, hcz20_5, hcz20_6, hcz20_7, hfz20_0, hfz20_1, hfz20_2, hfz20_3, hfz20_4, hfz20_5, hfz20_6, hfz20_7⟩ := blk_all8 BK413.out) | (go_at_call 10; (with_reducible refine (waveletref50_Few.calls k a2_0 a2_1 a2_2 a2_3 a2_4 a2_5 _ _ l2_6 _ _ l2_7 t416 _ ?side1 ?side2 ?side3 ?side4 A12.out).mono ?_); (case side1 => repeat (first | exact (Kd.C_below HR2_6.out HB.out) | (with_reducible refine Kd.C_alloc ?_ _) | (with_reducible refine Kd.C_drewN ?_ _) | (with_reducible refine Kd.C_drew ?_))); (case side2 => exact HC2_6.out); (case side3 => repeat (first | exact (Kd.C_below HR2_7.out HB.out) | (with_reducible refine Kd.C_alloc ?_ _) | (with_reducible refine Kd.C_drewN ?_ _) | (with_reducible refine Kd.C_drew ?_))); (case side4 => exact HC2_7.out); rintro e w21 ⟨rfl, hb⟩; replace BK411 := Aside0.mk (blk_below BK411.out hb); replace BK412 := Aside0.mk (blk_below BK412.out hb); replace BK413 := Aside0.mk (blk_below BK413.out hb); replace HB := Aside0.mk (below_step HB.out hb); (try clear hb; try clear hb2; try clear hk; try clear hi)))
    go_meet
    case rel => exact ⟨_, (!t416), (by first | rfl | (simp; done) | (simp [*]; done)), H', ⟨by first | omega | exact Nat.le_refl _⟩, ⟨BK411.out⟩, ⟨BK412.out⟩, ⟨BK413.out⟩, ⟨HB.out⟩⟩
   ·replace c11 := Bool.eq_false_iff.mpr c11
    subst c11
    rw [if_neg (show ¬ (false = true) by decide)] at H
    have H' := Aside0.mk H
    clear H
    have hnb22 := NB411_412.out
    have hnc22 := NB412_411.out
    have hnb23 := NB411_413.out
    have hnc23 := NB413_411.out
    obtain ⟨hcz24_0, hcz24_1, hcz24_2, hcz24_3, hcz24_4, hcz24_5, hcz24_6, hcz24_7, hfz24_0, hfz24_1, hfz24_2, hfz24_3, hfz24_4, hfz24_5, hfz24_6, hfz24_7⟩ := blk_all8 BK411.out
    go_wp2_with (first | ((with_reducible refine gate_callee (f := 10) rfl ?_); refine goesL_ (some 12) rfl rfl Try.func10 (by kernel_rfl) rfl #[.agg #[.int .i64 a0_0, .int .i64 a0_1, .int .i64 a0_2, .int .i64 a0_3, .int .i64 a0_4, .int .i64 a0_5, .slice A0_6 l0_6.length c0_6, .slice A0_7 l0_7.length c0_7]] rfl upL ?_; (with_reducible refine (waveletref50_Few.calls k a0_0 a0_1 a0_2 a0_3 a0_4 a0_5 _ _ l0_6 _ _ l0_7 true _ ?side1 ?side2 ?side3 ?side4 A8.out).mono ?_); (case side1 => repeat (first | exact (Kd.C_below HR0_6.out HB.out) | (with_reducible refine Kd.C_alloc ?_ _) | (with_reducible refine Kd.C_drewN ?_ _) | (with_reducible refine Kd.C_drew ?_))); (case side2 => exact HC0_6.out); (case side3 => repeat (first | exact (Kd.C_below HR0_7.out HB.out) | (with_reducible refine Kd.C_alloc ?_ _) | (with_reducible refine Kd.C_drewN ?_ _) | (with_reducible refine Kd.C_drew ?_))); (case side4 => exact HC0_7.out); rintro e w25 ⟨rfl, hb⟩; refine ⟨_, rfl, ?_⟩; replace BK411 := Aside0.mk (blk_below BK411.out hb); replace BK412 := Aside0.mk (blk_below BK412.out hb); replace BK413 := Aside0.mk (blk_below BK413.out hb); replace HB := Aside0.mk (below_step HB.out hb); (try clear hb; try clear hb2; try clear hk; try clear hi); have hnb26 := NB412_413.out; have hnc26 := NB413_412.out; obtain ⟨hcz27_0, hcz27_1, hcz27_2, hcz27_3, hcz27_4, hcz27_5, hcz27_6, hcz27_7, hfz27_0, hfz27_1, hfz27_2, hfz27_3, hfz27_4, hfz27_5, hfz27_6, hfz27_7⟩ := blk_all8 BK412.out) | (go_at_call 10; (with_reducible refine (waveletref50_Few.calls k a1_0 a1_1 a1_2 a1_3 a1_4 a1_5 _ _ l1_6 _ _ l1_7 false _ ?side1 ?side2 ?side3 ?side4 A10.out).mono ?_); (case side1 => repeat (first | exact (Kd.C_below HR1_6.out HB.out) | (with_reducible refine Kd.C_alloc ?_ _) | (with_reducible refine Kd.C_drewN ?_ _) | (with_reducible refine Kd.C_drew ?_))); (case side2 => exact HC1_6.out); (case side3 => repeat (first | exact (Kd.C_below HR1_7.out HB.out) | (with_reducible refine Kd.C_alloc ?_ _) | (with_reducible refine Kd.C_drewN ?_ _) | (with_reducible refine Kd.C_drew ?_))); (case side4 => exact HC1_7.out); rintro e w28 ⟨rfl, hb⟩; replace BK411 := Aside0.mk (blk_below BK411.out hb); replace BK412 := Aside0.mk (blk_below BK412.out hb); replace BK413 := Aside0.mk (blk_below BK413.out hb); replace HB := Aside0.mk (below_step HB.out hb); (try clear hb; try clear hb2; try clear hk; try clear hi)))
    go_meet
    case rel => exact ⟨_, (true), (by first | rfl | (simp; done) | (simp [*]; done)), H', ⟨by first | omega | exact Nat.le_refl _⟩, ⟨BK411.out⟩, ⟨BK412.out⟩, ⟨BK413.out⟩, ⟨HB.out⟩⟩
  ·replace c9 := Bool.eq_false_iff.mpr c9
   subst c9
   rw [if_neg (show ¬ (false = true) by decide)] at H
   have H' := Aside0.mk H
   clear H
   have hnb29 := NB411_412.out
   have hnc29 := NB412_411.out
   have hnb30 := NB411_413.out
   have hnc30 := NB413_411.out
   obtain ⟨hcz31_0, hcz31_1, hcz31_2, hcz31_3, hcz31_4, hcz31_5, hcz31_6, hcz31_7, hfz31_0, hfz31_1, hfz31_2, hfz31_3, hfz31_4, hfz31_5, hfz31_6, hfz31_7⟩ := blk_all8 BK411.out
   go_wp2_with (first | ((with_reducible refine gate_callee (f := 10) rfl ?_); refine goesL_ (some 12) rfl rfl Try.func10 (by kernel_rfl) rfl #[.agg #[.int .i64 a0_0, .int .i64 a0_1, .int .i64 a0_2, .int .i64 a0_3, .int .i64 a0_4, .int .i64 a0_5, .slice A0_6 l0_6.length c0_6, .slice A0_7 l0_7.length c0_7]] rfl upL ?_; (with_reducible refine (waveletref50_Few.calls k a0_0 a0_1 a0_2 a0_3 a0_4 a0_5 _ _ l0_6 _ _ l0_7 false _ ?side1 ?side2 ?side3 ?side4 A8.out).mono ?_); (case side1 => repeat (first | exact (Kd.C_below HR0_6.out HB.out) | (with_reducible refine Kd.C_alloc ?_ _) | (with_reducible refine Kd.C_drewN ?_ _) | (with_reducible refine Kd.C_drew ?_))); (case side2 => exact HC0_6.out); (case side3 => repeat (first | exact (Kd.C_below HR0_7.out HB.out) | (with_reducible refine Kd.C_alloc ?_ _) | (with_reducible refine Kd.C_drewN ?_ _) | (with_reducible refine Kd.C_drew ?_))); (case side4 => exact HC0_7.out); rintro e w32 ⟨rfl, hb⟩; refine ⟨_, rfl, ?_⟩; replace BK411 := Aside0.mk (blk_below BK411.out hb); replace BK412 := Aside0.mk (blk_below BK412.out hb); replace BK413 := Aside0.mk (blk_below BK413.out hb); replace HB := Aside0.mk (below_step HB.out hb); (try clear hb; try clear hb2; try clear hk; try clear hi)))
   go_meet
   case rel => exact ⟨_, (true), (by first | rfl | (simp; done) | (simp [*]; done)), H', ⟨by first | omega | exact Nat.le_refl _⟩, ⟨BK411.out⟩, ⟨BK412.out⟩, ⟨BK413.out⟩, ⟨HB.out⟩⟩
 case rest =>
  clear HC4
  try clear c1; try clear c2; try clear p2; try clear c3; try clear c4; try clear c9; try clear c10; try clear c11; try clear c13; try clear c14; try clear c17; try clear c22; try clear c23; try clear c26; try clear c29; try clear c30; try clear hcz15_0; try clear hcz15_1; try clear hcz15_2; try clear hcz15_3; try clear hcz15_4; try clear hcz15_5; try clear hcz15_6; try clear hcz15_7; try clear hcz18_0; try clear hcz18_1; try clear hcz18_2; try clear hcz18_3; try clear hcz18_4; try clear hcz18_5; try clear hcz18_6; try clear hcz18_7; try clear hcz20_0; try clear hcz20_1; try clear hcz20_2; try clear hcz20_3; try clear hcz20_4; try clear hcz20_5; try clear hcz20_6; try clear hcz20_7; try clear hcz24_0; try clear hcz24_1; try clear hcz24_2; try clear hcz24_3; try clear hcz24_4; try clear hcz24_5; try clear hcz24_6; try clear hcz24_7; try clear hcz27_0; try clear hcz27_1; try clear hcz27_2; try clear hcz27_3; try clear hcz27_4; try clear hcz27_5; try clear hcz27_6; try clear hcz27_7; try clear hcz31_0; try clear hcz31_1; try clear hcz31_2; try clear hcz31_3; try clear hcz31_4; try clear hcz31_5; try clear hcz31_6; try clear hcz31_7; try clear hfz15_0; try clear hfz15_1; try clear hfz15_2; try clear hfz15_3; try clear hfz15_4; try clear hfz15_5; try clear hfz15_6; try clear hfz15_7; try clear hfz18_0; try clear hfz18_1; try clear hfz18_2; try clear hfz18_3; try clear hfz18_4; try clear hfz18_5; try clear hfz18_6; try clear hfz18_7; try clear hfz20_0; try clear hfz20_1; try clear hfz20_2; try clear hfz20_3; try clear hfz20_4; try clear hfz20_5; try clear hfz20_6; try clear hfz20_7; try clear hfz24_0; try clear hfz24_1; try clear hfz24_2; try clear hfz24_3; try clear hfz24_4; try clear hfz24_5; try clear hfz24_6; try clear hfz24_7; try clear hfz27_0; try clear hfz27_1; try clear hfz27_2; try clear hfz27_3; try clear hfz27_4; try clear hfz27_5; try clear hfz27_6; try clear hfz27_7; try clear hfz31_0; try clear hfz31_1; try clear hfz31_2; try clear hfz31_3; try clear hfz31_4; try clear hfz31_5; try clear hfz31_6; try clear hfz31_7
  obtain ⟨kq, x23_3, rfl, HA, HJ3, BK411, BK412, BK413, HB⟩ := hcut
  cases kq with
  | zero => exact absurd HA.out (by simp [waveletlaw50_MetricsCompares.j0])
  | succ kj3 =>
   have H := HA.out
   clear HA
   simp only [waveletlaw50_MetricsCompares.j0] at H
   by_cases c33 : x23_3 = true
   ·subst c33
    rw [if_pos rfl] at H
    replace H := Option.bind_eq_some_iff.mp H
    obtain ⟨t417, A340, H⟩ := H
    replace H : (some t417) = some r := H
    have A34 := Aside0.mk A340
    clear A340
    obtain rfl := Option.some.inj H
    go_wp2_with (first | ((with_reducible refine gate_callee (f := 11) rfl ?_); refine goesL_ (some 24) rfl rfl Try.func11 (by kernel_rfl) rfl #[] rfl upL ?_; (with_reducible refine (waveletlaw50_exampleHolds.calls kj3  t417 _ A34.out).mono ?_); rintro e w35 ⟨rfl, hb⟩; refine ⟨_, rfl, ?_⟩; replace BK411 := Aside0.mk (blk_below BK411.out hb); replace BK412 := Aside0.mk (blk_below BK412.out hb); replace BK413 := Aside0.mk (blk_below BK413.out hb); replace HB := Aside0.mk (below_step HB.out hb); (try clear hb; try clear hb2; try clear hk; try clear hi)))
    go_ret
    exact ⟨by first | rfl | (simp [errW_none, errW_some] <;> rfl) | (simp [*, errW_none, errW_some] <;> rfl), HB.out⟩
   ·replace c33 := Bool.eq_false_iff.mpr c33
    subst c33
    rw [if_neg (show ¬ (false = true) by decide)] at H
    replace H := Option.bind_eq_some_iff.mp H
    obtain ⟨⟨t418, t419⟩, A360, H⟩ := H
    replace H : ((waveletref50_Closer.f kj3 a0_0 a0_1 a0_2 a0_3 a0_4 a0_5 l0_6 l0_7 a1_0 a1_1 a1_2 a1_3 a1_4 a1_5 l1_6 l1_7 a2_0 a2_1 a2_2 a2_3 a2_4 a2_5 l2_6 l2_7).bind fun bt420 => (if t418 = bt420.1 then (if t419 = bt420.2 then ((metrics_Equal.f kj3 a1_0 a1_1 a1_2 a1_3 a1_4 a1_5 l1_6 l1_7 a2_0 a2_1 a2_2 a2_3 a2_4 a2_5 l2_6 l2_7).bind fun t422 => ((waveletref50_Equal.f kj3 a1_0 a1_1 a1_2 a1_3 a1_4 a1_5 l1_6 l1_7 a2_0 a2_1 a2_2 a2_3 a2_4 a2_5 l2_6 l2_7).bind fun t423 => (if (t422 == t423) = true then ((metrics_Equal.f kj3 a0_0 a0_1 a0_2 a0_3 a0_4 a0_5 l0_6 l0_7 a1_0 a1_1 a1_2 a1_3 a1_4 a1_5 l1_6 l1_7).bind fun t424 => ((waveletref50_Equal.f kj3 a0_0 a0_1 a0_2 a0_3 a0_4 a0_5 l0_6 l0_7 a1_0 a1_1 a1_2 a1_3 a1_4 a1_5 l1_6 l1_7).bind fun t425 => (if (t424 == t425) = true then ((waveletlaw50_exampleHolds.f kj3).bind fun t426 => (some t426)) else (some false)))) else (some false)))) else (some false)) else (some false))) = some r := H
    have A36 := Aside0.mk A360
    clear A360
    replace H := Option.bind_eq_some_iff.mp H
    obtain ⟨⟨t420, t421⟩, A370, H⟩ := H
    replace H : (if t418 = t420 then (if t419 = t421 then ((metrics_Equal.f kj3 a1_0 a1_1 a1_2 a1_3 a1_4 a1_5 l1_6 l1_7 a2_0 a2_1 a2_2 a2_3 a2_4 a2_5 l2_6 l2_7).bind fun t422 => ((waveletref50_Equal.f kj3 a1_0 a1_1 a1_2 a1_3 a1_4 a1_5 l1_6 l1_7 a2_0 a2_1 a2_2 a2_3 a2_4 a2_5 l2_6 l2_7).bind fun t423 => (if (t422 == t423) = true then ((metrics_Equal.f kj3 a0_0 a0_1 a0_2 a0_3 a0_4 a0_5 l0_6 l0_7 a1_0 a1_1 a1_2 a1_3 a1_4 a1_5 l1_6 l1_7).bind fun t424 => ((waveletref50_Equal.f kj3 a0_0 a0_1 a0_2 a0_3 a0_4 a0_5 l0_6 l0_7 a1_0 a1_1 a1_2 a1_3 a1_4 a1_5 l1_6 l1_7).bind fun t425 => (if (t424 == t425) = true then ((waveletlaw50_exampleHolds.f kj3).bind fun t426 => (some t426)) else (some false)))) else (some false)))) else (some false)) else (some false)) = some r := H
    have A37 := Aside0.mk A370
    clear A370
    by_cases c38 : t418 = t420
    ·rw [if_pos c38] at H
     have c38b0 : (t418 == t420) = true := beq_iff_eq.mpr c38
     have c38b1 : (t418 != t420) = false := bne_eq_false_iff_eq.mpr c38
     clear c38
     by_cases c39 : t419 = t421
     ·rw [if_pos c39] at H
      have c39b0 : (t419 == t421) = true := beq_iff_eq.mpr c39
      have c39b1 : (t419 != t421) = false := bne_eq_false_iff_eq.mpr c39
      clear c39
      replace H := Option.bind_eq_some_iff.mp H
      obtain ⟨t422, A400, H⟩ := H
      replace H : ((waveletref50_Equal.f kj3 a1_0 a1_1 a1_2 a1_3 a1_4 a1_5 l1_6 l1_7 a2_0 a2_1 a2_2 a2_3 a2_4 a2_5 l2_6 l2_7).bind fun t423 => (if (t422 == t423) = true then ((metrics_Equal.f kj3 a0_0 a0_1 a0_2 a0_3 a0_4 a0_5 l0_6 l0_7 a1_0 a1_1 a1_2 a1_3 a1_4 a1_5 l1_6 l1_7).bind fun t424 => ((waveletref50_Equal.f kj3 a0_0 a0_1 a0_2 a0_3 a0_4 a0_5 l0_6 l0_7 a1_0 a1_1 a1_2 a1_3 a1_4 a1_5 l1_6 l1_7).bind fun t425 => (if (t424 == t425) = true then ((waveletlaw50_exampleHolds.f kj3).bind fun t426 => (some t426)) else (some false)))) else (some false))) = some r := H
      have A40 := Aside0.mk A400
      clear A400
      replace H := Option.bind_eq_some_iff.mp H
      obtain ⟨t423, A410, H⟩ := H
      replace H : (if (t422 == t423) = true then ((metrics_Equal.f kj3 a0_0 a0_1 a0_2 a0_3 a0_4 a0_5 l0_6 l0_7 a1_0 a1_1 a1_2 a1_3 a1_4 a1_5 l1_6 l1_7).bind fun t424 => ((waveletref50_Equal.f kj3 a0_0 a0_1 a0_2 a0_3 a0_4 a0_5 l0_6 l0_7 a1_0 a1_1 a1_2 a1_3 a1_4 a1_5 l1_6 l1_7).bind fun t425 => (if (t424 == t425) = true then ((waveletlaw50_exampleHolds.f kj3).bind fun t426 => (some t426)) else (some false)))) else (some false)) = some r := H
      have A41 := Aside0.mk A410
      clear A410
      by_cases c42 : (t422 == t423) = true
      ·rw [if_pos c42] at H
       have c42b0 : (t422 == t423) = true := c42
       (try (have c42b1 : decide (t422 = t423) = true := by simpa using c42))
       (try (have c42b2 : (t422 == t423) = true := by simpa using c42))
       clear c42
       replace H := Option.bind_eq_some_iff.mp H
       obtain ⟨t424, A430, H⟩ := H
       replace H : ((waveletref50_Equal.f kj3 a0_0 a0_1 a0_2 a0_3 a0_4 a0_5 l0_6 l0_7 a1_0 a1_1 a1_2 a1_3 a1_4 a1_5 l1_6 l1_7).bind fun t425 => (if (t424 == t425) = true then ((waveletlaw50_exampleHolds.f kj3).bind fun t426 => (some t426)) else (some false))) = some r := H
       have A43 := Aside0.mk A430
       clear A430
       replace H := Option.bind_eq_some_iff.mp H
       obtain ⟨t425, A440, H⟩ := H
       replace H : (if (t424 == t425) = true then ((waveletlaw50_exampleHolds.f kj3).bind fun t426 => (some t426)) else (some false)) = some r := H
       have A44 := Aside0.mk A440
       clear A440
       by_cases c45 : (t424 == t425) = true
       ·rw [if_pos c45] at H
        have c45b0 : (t424 == t425) = true := c45
        (try (have c45b1 : decide (t424 = t425) = true := by simpa using c45))
        (try (have c45b2 : (t424 == t425) = true := by simpa using c45))
        clear c45
        replace H := Option.bind_eq_some_iff.mp H
        obtain ⟨t426, A460, H⟩ := H
        replace H : (some t426) = some r := H
        have A46 := Aside0.mk A460
        clear A460
        obtain rfl := Option.some.inj H
        have hnb47 := NB411_412.out
        have hnc47 := NB412_411.out
        have hnb48 := NB411_413.out
        have hnc48 := NB413_411.out
        obtain ⟨hcz49_0, hcz49_1, hcz49_2, hcz49_3, hcz49_4, hcz49_5, hcz49_6, hcz49_7, hfz49_0, hfz49_1, hfz49_2, hfz49_3, hfz49_4, hfz49_5, hfz49_6, hfz49_7⟩ := blk_all8 BK411.out
        have hnb50 := NB412_413.out
        have hnc50 := NB413_412.out
        obtain ⟨hcz51_0, hcz51_1, hcz51_2, hcz51_3, hcz51_4, hcz51_5, hcz51_6, hcz51_7, hfz51_0, hfz51_1, hfz51_2, hfz51_3, hfz51_4, hfz51_5, hfz51_6, hfz51_7⟩ := blk_all8 BK412.out
        obtain ⟨hcz52_0, hcz52_1, hcz52_2, hcz52_3, hcz52_4, hcz52_5, hcz52_6, hcz52_7, hfz52_0, hfz52_1, hfz52_2, hfz52_3, hfz52_4, hfz52_5, hfz52_6, hfz52_7⟩ := blk_all8 BK413.out
        try go_wp2_with (first | ((with_reducible refine gate_callee (f := 16) rfl ?_); refine goesL_ (some 29) rfl rfl Try.func16 (by kernel_rfl) rfl #[.agg #[.int .i64 a0_0, .int .i64 a0_1, .int .i64 a0_2, .int .i64 a0_3, .int .i64 a0_4, .int .i64 a0_5, .slice A0_6 l0_6.length c0_6, .slice A0_7 l0_7.length c0_7], .agg #[.int .i64 a1_0, .int .i64 a1_1, .int .i64 a1_2, .int .i64 a1_3, .int .i64 a1_4, .int .i64 a1_5, .slice A1_6 l1_6.length c1_6, .slice A1_7 l1_7.length c1_7], .agg #[.int .i64 a2_0, .int .i64 a2_1, .int .i64 a2_2, .int .i64 a2_3, .int .i64 a2_4, .int .i64 a2_5, .slice A2_6 l2_6.length c2_6, .slice A2_7 l2_7.length c2_7]] rfl upL ?_; (with_reducible refine (metrics_Closer.calls kj3 a0_0 a0_1 a0_2 a0_3 a0_4 a0_5 _ _ l0_6 _ _ l0_7 a1_0 a1_1 a1_2 a1_3 a1_4 a1_5 _ _ l1_6 _ _ l1_7 a2_0 a2_1 a2_2 a2_3 a2_4 a2_5 _ _ l2_6 _ _ l2_7 t418 t419 _ ?side1 ?side2 ?side3 ?side4 ?side5 ?side6 ?side7 ?side8 ?side9 ?side10 ?side11 ?side12 A36.out).mono ?_); (case side1 => repeat (first | exact (Kd.C_below HR0_6.out HB.out) | (with_reducible refine Kd.C_alloc ?_ _) | (with_reducible refine Kd.C_drewN ?_ _) | (with_reducible refine Kd.C_drew ?_))); (case side2 => exact HC0_6.out); (case side3 => repeat (first | exact (Kd.C_below HR0_7.out HB.out) | (with_reducible refine Kd.C_alloc ?_ _) | (with_reducible refine Kd.C_drewN ?_ _) | (with_reducible refine Kd.C_drew ?_))); (case side4 => exact HC0_7.out); (case side5 => repeat (first | exact (Kd.C_below HR1_6.out HB.out) | (with_reducible refine Kd.C_alloc ?_ _) | (with_reducible refine Kd.C_drewN ?_ _) | (with_reducible refine Kd.C_drew ?_))); (case side6 => exact HC1_6.out); (case side7 => repeat (first | exact (Kd.C_below HR1_7.out HB.out) | (with_reducible refine Kd.C_alloc ?_ _) | (with_reducible refine Kd.C_drewN ?_ _) | (with_reducible refine Kd.C_drew ?_))); (case side8 => exact HC1_7.out); (case side9 => repeat (first | exact (Kd.C_below HR2_6.out HB.out) | (with_reducible refine Kd.C_alloc ?_ _) | (with_reducible refine Kd.C_drewN ?_ _) | (with_reducible refine Kd.C_drew ?_))); (case side10 => exact HC2_6.out); (case side11 => repeat (first | exact (Kd.C_below HR2_7.out HB.out) | (with_reducible refine Kd.C_alloc ?_ _) | (with_reducible refine Kd.C_drewN ?_ _) | (with_reducible refine Kd.C_drew ?_))); (case side12 => exact HC2_7.out); rintro e w53 ⟨rfl, hb⟩; refine ⟨_, rfl, ?_⟩; replace BK411 := Aside0.mk (blk_below BK411.out hb); replace BK412 := Aside0.mk (blk_below BK412.out hb); replace BK413 := Aside0.mk (blk_below BK413.out hb); replace HB := Aside0.mk (below_step HB.out hb); (try clear hb; try clear hb2; try clear hk; try clear hi); obtain ⟨hcz54_0, hcz54_1, hcz54_2, hcz54_3, hcz54_4, hcz54_5, hcz54_6, hcz54_7, hfz54_0, hfz54_1, hfz54_2, hfz54_3, hfz54_4, hfz54_5, hfz54_6, hfz54_7⟩ := blk_all8 BK411.out; obtain ⟨hcz55_0, hcz55_1, hcz55_2, hcz55_3, hcz55_4, hcz55_5, hcz55_6, hcz55_7, hfz55_0, hfz55_1, hfz55_2, hfz55_3, hfz55_4, hfz55_5, hfz55_6, hfz55_7⟩ := blk_all8 BK412.out; obtain ⟨hcz56_0, hcz56_1, hcz56_2, hcz56_3, hcz56_4, hcz56_5, hcz56_6, hcz56_7, hfz56_0, hfz56_1, hfz56_2, hfz56_3, hfz56_4, hfz56_5, hfz56_6, hfz56_7⟩ := blk_all8 BK413.out) | ((with_reducible refine gate_callee (f := 17) rfl ?_); refine goesL_ (some 36) rfl rfl Try.func17 (by kernel_rfl) rfl #[.agg #[.int .i64 a0_0, .int .i64 a0_1, .int .i64 a0_2, .int .i64 a0_3, .int .i64 a0_4, .int .i64 a0_5, .slice A0_6 l0_6.length c0_6, .slice A0_7 l0_7.length c0_7], .agg #[.int .i64 a1_0, .int .i64 a1_1, .int .i64 a1_2, .int .i64 a1_3, .int .i64 a1_4, .int .i64 a1_5, .slice A1_6 l1_6.length c1_6, .slice A1_7 l1_7.length c1_7], .agg #[.int .i64 a2_0, .int .i64 a2_1, .int .i64 a2_2, .int .i64 a2_3, .int .i64 a2_4, .int .i64 a2_5, .slice A2_6 l2_6.length c2_6, .slice A2_7 l2_7.length c2_7]] rfl upL ?_; (with_reducible refine (waveletref50_Closer.calls kj3 a0_0 a0_1 a0_2 a0_3 a0_4 a0_5 _ _ l0_6 _ _ l0_7 a1_0 a1_1 a1_2 a1_3 a1_4 a1_5 _ _ l1_6 _ _ l1_7 a2_0 a2_1 a2_2 a2_3 a2_4 a2_5 _ _ l2_6 _ _ l2_7 t420 t421 _ ?side1 ?side2 ?side3 ?side4 ?side5 ?side6 ?side7 ?side8 ?side9 ?side10 ?side11 ?side12 A37.out).mono ?_); (case side1 => repeat (first | exact (Kd.C_below HR0_6.out HB.out) | (with_reducible refine Kd.C_alloc ?_ _) | (with_reducible refine Kd.C_drewN ?_ _) | (with_reducible refine Kd.C_drew ?_))); (case side2 => exact HC0_6.out); (case side3 => repeat (first | exact (Kd.C_below HR0_7.out HB.out) | (with_reducible refine Kd.C_alloc ?_ _) | (with_reducible refine Kd.C_drewN ?_ _) | (with_reducible refine Kd.C_drew ?_))); (case side4 => exact HC0_7.out); (case side5 => repeat (first | exact (Kd.C_below HR1_6.out HB.out) | (with_reducible refine Kd.C_alloc ?_ _) | (with_reducible refine Kd.C_drewN ?_ _) | (with_reducible refine Kd.C_drew ?_))); (case side6 => exact HC1_6.out); (case side7 => repeat (first | exact (Kd.C_below HR1_7.out HB.out) | (with_reducible refine Kd.C_alloc ?_ _) | (with_reducible refine Kd.C_drewN ?_ _) | (with_reducible refine Kd.C_drew ?_))); (case side8 => exact HC1_7.out); (case side9 => repeat (first | exact (Kd.C_below HR2_6.out HB.out) | (with_reducible refine Kd.C_alloc ?_ _) | (with_reducible refine Kd.C_drewN ?_ _) | (with_reducible refine Kd.C_drew ?_))); (case side10 => exact HC2_6.out); (case side11 => repeat (first | exact (Kd.C_below HR2_7.out HB.out) | (with_reducible refine Kd.C_alloc ?_ _) | (with_reducible refine Kd.C_drewN ?_ _) | (with_reducible refine Kd.C_drew ?_))); (case side12 => exact HC2_7.out); rintro e w57 ⟨rfl, hb⟩; refine ⟨_, rfl, ?_⟩; replace BK411 := Aside0.mk (blk_below BK411.out hb); replace BK412 := Aside0.mk (blk_below BK412.out hb); replace BK413 := Aside0.mk (blk_below BK413.out hb); replace HB := Aside0.mk (below_step HB.out hb); (try clear hb; try clear hb2; try clear hk; try clear hi)))
        replace BK411 := Aside0.mk (blk_drew BK411.out)
        replace BK412 := Aside0.mk (blk_drew BK412.out)
        replace BK413 := Aside0.mk (blk_drew BK413.out)
        replace HB := Aside0.mk (below_drew1 HB.out)
        refine start_ (n := 30) (S := fun w' => ce w' gb412 0 (.int .i64 a1_0) ∧ ce w' gb412 1 (.int .i64 a1_1) ∧ ce w' gb412 2 (.int .i64 a1_2) ∧ ce w' gb412 3 (.int .i64 a1_3) ∧ ce w' gb412 4 (.int .i64 a1_4) ∧ ce w' gb412 5 (.int .i64 a1_5) ∧ ce w' gb412 6 (.slice A1_6 l1_6.length c1_6) ∧ ce w' gb412 7 (.slice A1_7 l1_7.length c1_7) ∧ ce w' gb413 0 (.int .i64 a2_0) ∧ ce w' gb413 1 (.int .i64 a2_1) ∧ ce w' gb413 2 (.int .i64 a2_2) ∧ ce w' gb413 3 (.int .i64 a2_3) ∧ ce w' gb413 4 (.int .i64 a2_4) ∧ ce w' gb413 5 (.int .i64 a2_5) ∧ ce w' gb413 6 (.slice A2_6 l2_6.length c2_6) ∧ ce w' gb413 7 (.slice A2_7 l2_7.length c2_7) ∧ ce w' gb411 0 (.int .i64 a0_0) ∧ ce w' gb411 1 (.int .i64 a0_1) ∧ ce w' gb411 2 (.int .i64 a0_2) ∧ ce w' gb411 3 (.int .i64 a0_3) ∧ ce w' gb411 4 (.int .i64 a0_4) ∧ ce w' gb411 5 (.int .i64 a0_5) ∧ ce w' gb411 6 (.slice A0_6 l0_6.length c0_6) ∧ ce w' gb411 7 (.slice A0_7 l0_7.length c0_7)) (ds := []) #[false, false, false, false, false, false, false, false, false, false, false, false, false, false, false, false, false, false, false, false, false, false, false, false, false, false, false, false, false, false] (by kernel_rfl) rfl rfl ⟨bc BK412 0, bc BK412 1, bc BK412 2, bc BK412 3, bc BK412 4, bc BK412 5, bc BK412 6, bc BK412 7, bc BK413 0, bc BK413 1, bc BK413 2, bc BK413 3, bc BK413 4, bc BK413 5, bc BK413 6, bc BK413 7, bc BK411 0, bc BK411 1, bc BK411 2, bc BK411 3, bc BK411 4, bc BK411 5, bc BK411 6, bc BK411 7⟩ (fun hHeld => ?_); refine with_tabW waveletlaw50_MetricsCompares.tab5 waveletlaw50_MetricsCompares.bits5 (fun HT_ HW_ => ?_)
        generalize w57.drew = w58 at BK411 BK412 BK413 HB hHeld ⊢
        refine puX 0 39 (MK [1, 29]) HT_.out ?_
        refine puX 1 40 (MK [2, 28]) HT_.out ?_
        refine puX 2 41 (MK [3, 27]) HT_.out ?_
        refine puX 3 42 (MK [4, 26]) HT_.out ?_
        refine puX 4 43 (MK [5, 25]) HT_.out ?_
        refine puX 5 44 (MK [6, 24]) HT_.out ?_
        refine puX 6 45 (MK [7, 23]) HT_.out ?_
        refine puX 7 46 (MK [8, 22]) HT_.out ?_
        refine puX 8 47 (MK [9, 21]) HT_.out ?_
        refine taX 9 48 (MK [10, 20]) HT_.out HW_.out hHeld ?_
        refine taX 10 49 (MK [11, 19]) HT_.out HW_.out hHeld ?_
        refine taX 12 51 (MK [11, 1, 1, 17]) HT_.out HW_.out hHeld ?_
        refine taX 13 52 (MK [11, 1, 2, 16]) HT_.out HW_.out hHeld ?_
        refine onX 11 50 (MK [14, 16]) HT_.out (fun K hK => ?_)
        refine goes_ Try.func18 (by kernel_rfl) rfl #[.agg #[.int .i64 a1_0, .int .i64 a1_1, .int .i64 a1_2, .int .i64 a1_3, .int .i64 a1_4, .int .i64 a1_5, .slice A1_6 l1_6.length c1_6, .slice A1_7 l1_7.length c1_7], .agg #[.int .i64 a2_0, .int .i64 a2_1, .int .i64 a2_2, .int .i64 a2_3, .int .i64 a2_4, .int .i64 a2_5, .slice A2_6 l2_6.length c2_6, .slice A2_7 l2_7.length c2_7]] (by rfl) rfl rfl upL ?_
        with_reducible refine (metrics_Equal.calls kj3 a1_0 a1_1 a1_2 a1_3 a1_4 a1_5 _ _ l1_6 _ _ l1_7 a2_0 a2_1 a2_2 a2_3 a2_4 a2_5 _ _ l2_6 _ _ l2_7 t422 _ ?side1 ?side2 ?side3 ?side4 ?side5 ?side6 ?side7 ?side8 A40.out).mono ?_
        (case side1 => repeat (first | exact (Kd.C_below HR1_6.out HB.out) | (with_reducible refine Kd.C_alloc ?_ _) | (with_reducible refine Kd.C_drewN ?_ _) | (with_reducible refine Kd.C_drew ?_)))
        (case side2 => exact HC1_6.out)
        (case side3 => repeat (first | exact (Kd.C_below HR1_7.out HB.out) | (with_reducible refine Kd.C_alloc ?_ _) | (with_reducible refine Kd.C_drewN ?_ _) | (with_reducible refine Kd.C_drew ?_)))
        (case side4 => exact HC1_7.out)
        (case side5 => repeat (first | exact (Kd.C_below HR2_6.out HB.out) | (with_reducible refine Kd.C_alloc ?_ _) | (with_reducible refine Kd.C_drewN ?_ _) | (with_reducible refine Kd.C_drew ?_)))
        (case side6 => exact HC2_6.out)
        (case side7 => repeat (first | exact (Kd.C_below HR2_7.out HB.out) | (with_reducible refine Kd.C_alloc ?_ _) | (with_reducible refine Kd.C_drewN ?_ _) | (with_reducible refine Kd.C_drew ?_)))
        (case side8 => exact HC2_7.out)
        rintro e w59 ⟨rfl, hb⟩
        refine ⟨_, rfl, ?_⟩
        replace BK411 := Aside0.mk (blk_below BK411.out hb)
        replace BK412 := Aside0.mk (blk_below BK412.out hb)
        replace BK413 := Aside0.mk (blk_below BK413.out hb)
        replace HB := Aside0.mk (below_step HB.out hb)
        (try clear hb); (try clear hb2); (try clear hk); (try clear hi)
        refine hK.out _ _ ⟨bc BK412 0, bc BK412 1, bc BK412 2, bc BK412 3, bc BK412 4, bc BK412 5, bc BK412 6, bc BK412 7, bc BK413 0, bc BK413 1, bc BK413 2, bc BK413 3, bc BK413 4, bc BK413 5, bc BK413 6, bc BK413 7, bc BK411 0, bc BK411 1, bc BK411 2, bc BK411 3, bc BK411 4, bc BK411 5, bc BK411 6, bc BK411 7⟩ (fun hHeld => ?_)
        clear hK K
        refine noX ?_
        refine onX 14 53 (MK [15, 15]) HT_.out (fun K hK => ?_)
        refine goes_ Try.func19 (by kernel_rfl) rfl #[.agg #[.int .i64 a1_0, .int .i64 a1_1, .int .i64 a1_2, .int .i64 a1_3, .int .i64 a1_4, .int .i64 a1_5, .slice A1_6 l1_6.length c1_6, .slice A1_7 l1_7.length c1_7], .agg #[.int .i64 a2_0, .int .i64 a2_1, .int .i64 a2_2, .int .i64 a2_3, .int .i64 a2_4, .int .i64 a2_5, .slice A2_6 l2_6.length c2_6, .slice A2_7 l2_7.length c2_7]] (by rfl) rfl rfl upL ?_
        with_reducible refine (waveletref50_Equal.calls kj3 a1_0 a1_1 a1_2 a1_3 a1_4 a1_5 _ _ l1_6 _ _ l1_7 a2_0 a2_1 a2_2 a2_3 a2_4 a2_5 _ _ l2_6 _ _ l2_7 t423 _ ?side1 ?side2 ?side3 ?side4 ?side5 ?side6 ?side7 ?side8 A41.out).mono ?_
        (case side1 => repeat (first | exact (Kd.C_below HR1_6.out HB.out) | (with_reducible refine Kd.C_alloc ?_ _) | (with_reducible refine Kd.C_drewN ?_ _) | (with_reducible refine Kd.C_drew ?_)))
        (case side2 => exact HC1_6.out)
        (case side3 => repeat (first | exact (Kd.C_below HR1_7.out HB.out) | (with_reducible refine Kd.C_alloc ?_ _) | (with_reducible refine Kd.C_drewN ?_ _) | (with_reducible refine Kd.C_drew ?_)))
        (case side4 => exact HC1_7.out)
        (case side5 => repeat (first | exact (Kd.C_below HR2_6.out HB.out) | (with_reducible refine Kd.C_alloc ?_ _) | (with_reducible refine Kd.C_drewN ?_ _) | (with_reducible refine Kd.C_drew ?_)))
        (case side6 => exact HC2_6.out)
        (case side7 => repeat (first | exact (Kd.C_below HR2_7.out HB.out) | (with_reducible refine Kd.C_alloc ?_ _) | (with_reducible refine Kd.C_drewN ?_ _) | (with_reducible refine Kd.C_drew ?_)))
        (case side8 => exact HC2_7.out)
        rintro e w60 ⟨rfl, hb⟩
        refine ⟨_, rfl, ?_⟩
        replace BK411 := Aside0.mk (blk_below BK411.out hb)
        replace BK412 := Aside0.mk (blk_below BK412.out hb)
        replace BK413 := Aside0.mk (blk_below BK413.out hb)
        replace HB := Aside0.mk (below_step HB.out hb)
        (try clear hb); (try clear hb2); (try clear hk); (try clear hi)
        refine hK.out _ _ ⟨bc BK412 0, bc BK412 1, bc BK412 2, bc BK412 3, bc BK412 4, bc BK412 5, bc BK412 6, bc BK412 7, bc BK413 0, bc BK413 1, bc BK413 2, bc BK413 3, bc BK413 4, bc BK413 5, bc BK413 6, bc BK413 7, bc BK411 0, bc BK411 1, bc BK411 2, bc BK411 3, bc BK411 4, bc BK411 5, bc BK411 6, bc BK411 7⟩ (fun hHeld => ?_)
        clear hK K
        refine noX ?_
        refine puX 15 54 (MK [16, 14]) HT_.out ?_
        refine puX 16 55 (MK [17, 13]) HT_.out ?_
        refine puX 17 56 (MK [18, 12]) HT_.out ?_
        refine taX 18 57 (MK [19, 11]) HT_.out HW_.out hHeld ?_
        refine taX 19 58 (MK [20, 10]) HT_.out HW_.out hHeld ?_
        refine taX 21 60 (MK [20, 1, 1, 8]) HT_.out HW_.out hHeld ?_
        refine taX 22 61 (MK [20, 1, 2, 7]) HT_.out HW_.out hHeld ?_
        refine onX 20 59 (MK [23, 7]) HT_.out (fun K hK => ?_)
        refine goes_ Try.func18 (by kernel_rfl) rfl #[.agg #[.int .i64 a0_0, .int .i64 a0_1, .int .i64 a0_2, .int .i64 a0_3, .int .i64 a0_4, .int .i64 a0_5, .slice A0_6 l0_6.length c0_6, .slice A0_7 l0_7.length c0_7], .agg #[.int .i64 a1_0, .int .i64 a1_1, .int .i64 a1_2, .int .i64 a1_3, .int .i64 a1_4, .int .i64 a1_5, .slice A1_6 l1_6.length c1_6, .slice A1_7 l1_7.length c1_7]] (by rfl) rfl rfl upL ?_
        with_reducible refine (metrics_Equal.calls kj3 a0_0 a0_1 a0_2 a0_3 a0_4 a0_5 _ _ l0_6 _ _ l0_7 a1_0 a1_1 a1_2 a1_3 a1_4 a1_5 _ _ l1_6 _ _ l1_7 t424 _ ?side1 ?side2 ?side3 ?side4 ?side5 ?side6 ?side7 ?side8 A43.out).mono ?_
        (case side1 => repeat (first | exact (Kd.C_below HR0_6.out HB.out) | (with_reducible refine Kd.C_alloc ?_ _) | (with_reducible refine Kd.C_drewN ?_ _) | (with_reducible refine Kd.C_drew ?_)))
        (case side2 => exact HC0_6.out)
        (case side3 => repeat (first | exact (Kd.C_below HR0_7.out HB.out) | (with_reducible refine Kd.C_alloc ?_ _) | (with_reducible refine Kd.C_drewN ?_ _) | (with_reducible refine Kd.C_drew ?_)))
        (case side4 => exact HC0_7.out)
        (case side5 => repeat (first | exact (Kd.C_below HR1_6.out HB.out) | (with_reducible refine Kd.C_alloc ?_ _) | (with_reducible refine Kd.C_drewN ?_ _) | (with_reducible refine Kd.C_drew ?_)))
        (case side6 => exact HC1_6.out)
        (case side7 => repeat (first | exact (Kd.C_below HR1_7.out HB.out) | (with_reducible refine Kd.C_alloc ?_ _) | (with_reducible refine Kd.C_drewN ?_ _) | (with_reducible refine Kd.C_drew ?_)))
        (case side8 => exact HC1_7.out)
        rintro e w61 ⟨rfl, hb⟩
        refine ⟨_, rfl, ?_⟩
        replace BK411 := Aside0.mk (blk_below BK411.out hb)
        replace BK412 := Aside0.mk (blk_below BK412.out hb)
        replace BK413 := Aside0.mk (blk_below BK413.out hb)
        replace HB := Aside0.mk (below_step HB.out hb)
        (try clear hb); (try clear hb2); (try clear hk); (try clear hi)
        refine hK.out _ _ ⟨bc BK412 0, bc BK412 1, bc BK412 2, bc BK412 3, bc BK412 4, bc BK412 5, bc BK412 6, bc BK412 7, bc BK413 0, bc BK413 1, bc BK413 2, bc BK413 3, bc BK413 4, bc BK413 5, bc BK413 6, bc BK413 7, bc BK411 0, bc BK411 1, bc BK411 2, bc BK411 3, bc BK411 4, bc BK411 5, bc BK411 6, bc BK411 7⟩ (fun hHeld => ?_)
        clear hK K
        refine noX ?_
        refine onX 23 62 (MK [24, 6]) HT_.out (fun K hK => ?_)
        refine goes_ Try.func19 (by kernel_rfl) rfl #[.agg #[.int .i64 a0_0, .int .i64 a0_1, .int .i64 a0_2, .int .i64 a0_3, .int .i64 a0_4, .int .i64 a0_5, .slice A0_6 l0_6.length c0_6, .slice A0_7 l0_7.length c0_7], .agg #[.int .i64 a1_0, .int .i64 a1_1, .int .i64 a1_2, .int .i64 a1_3, .int .i64 a1_4, .int .i64 a1_5, .slice A1_6 l1_6.length c1_6, .slice A1_7 l1_7.length c1_7]] (by rfl) rfl rfl upL ?_
        with_reducible refine (waveletref50_Equal.calls kj3 a0_0 a0_1 a0_2 a0_3 a0_4 a0_5 _ _ l0_6 _ _ l0_7 a1_0 a1_1 a1_2 a1_3 a1_4 a1_5 _ _ l1_6 _ _ l1_7 t425 _ ?side1 ?side2 ?side3 ?side4 ?side5 ?side6 ?side7 ?side8 A44.out).mono ?_
        (case side1 => repeat (first | exact (Kd.C_below HR0_6.out HB.out) | (with_reducible refine Kd.C_alloc ?_ _) | (with_reducible refine Kd.C_drewN ?_ _) | (with_reducible refine Kd.C_drew ?_)))
        (case side2 => exact HC0_6.out)
        (case side3 => repeat (first | exact (Kd.C_below HR0_7.out HB.out) | (with_reducible refine Kd.C_alloc ?_ _) | (with_reducible refine Kd.C_drewN ?_ _) | (with_reducible refine Kd.C_drew ?_)))
        (case side4 => exact HC0_7.out)
        (case side5 => repeat (first | exact (Kd.C_below HR1_6.out HB.out) | (with_reducible refine Kd.C_alloc ?_ _) | (with_reducible refine Kd.C_drewN ?_ _) | (with_reducible refine Kd.C_drew ?_)))
        (case side6 => exact HC1_6.out)
        (case side7 => repeat (first | exact (Kd.C_below HR1_7.out HB.out) | (with_reducible refine Kd.C_alloc ?_ _) | (with_reducible refine Kd.C_drewN ?_ _) | (with_reducible refine Kd.C_drew ?_)))
        (case side8 => exact HC1_7.out)
        rintro e w62 ⟨rfl, hb⟩
        refine ⟨_, rfl, ?_⟩
        replace BK411 := Aside0.mk (blk_below BK411.out hb)
        replace BK412 := Aside0.mk (blk_below BK412.out hb)
        replace BK413 := Aside0.mk (blk_below BK413.out hb)
        replace HB := Aside0.mk (below_step HB.out hb)
        (try clear hb); (try clear hb2); (try clear hk); (try clear hi)
        refine hK.out _ _ ⟨bc BK412 0, bc BK412 1, bc BK412 2, bc BK412 3, bc BK412 4, bc BK412 5, bc BK412 6, bc BK412 7, bc BK413 0, bc BK413 1, bc BK413 2, bc BK413 3, bc BK413 4, bc BK413 5, bc BK413 6, bc BK413 7, bc BK411 0, bc BK411 1, bc BK411 2, bc BK411 3, bc BK411 4, bc BK411 5, bc BK411 6, bc BK411 7⟩ (fun hHeld => ?_)
        clear hK K
        refine noX ?_
        refine puX 24 63 (MK [25, 5]) HT_.out ?_
        refine puX 25 64 (MK [26, 4]) HT_.out ?_
        refine puX 26 65 (MK [27, 3]) HT_.out ?_
        refine onX 27 66 (MK [28, 2]) HT_.out (fun K hK => ?_)
        refine goes_ Try.func11 (by kernel_rfl) rfl #[] (by rfl) rfl rfl upL ?_
        with_reducible refine (waveletlaw50_exampleHolds.calls kj3  t426 _ A46.out).mono ?_
        rintro e w63 ⟨rfl, hb⟩
        refine ⟨_, rfl, ?_⟩
        replace BK411 := Aside0.mk (blk_below BK411.out hb)
        replace BK412 := Aside0.mk (blk_below BK412.out hb)
        replace BK413 := Aside0.mk (blk_below BK413.out hb)
        replace HB := Aside0.mk (below_step HB.out hb)
        (try clear hb); (try clear hb2); (try clear hk); (try clear hi)
        refine hK.out _ _ ⟨bc BK412 0, bc BK412 1, bc BK412 2, bc BK412 3, bc BK412 4, bc BK412 5, bc BK412 6, bc BK412 7, bc BK413 0, bc BK413 1, bc BK413 2, bc BK413 3, bc BK413 4, bc BK413 5, bc BK413 6, bc BK413 7, bc BK411 0, bc BK411 1, bc BK411 2, bc BK411 3, bc BK411 4, bc BK411 5, bc BK411 6, bc BK411 7⟩ (fun hHeld => ?_)
        clear hK K
        refine noX ?_
        refine puX 28 67 (MK [29, 1]) HT_.out ?_
        refine puX 29 6 (MK [30]) HT_.out ?_
        refine done_ (done_of HT_.out (by kernel_rfl)) ?_
        try go_wp2
        go_ret
        exact ⟨by first | rfl | (simp [errW_none, errW_some] <;> rfl) | (simp [*, errW_none, errW_some] <;> rfl), HB.out⟩
       ·rw [if_neg c45] at H
        exact absurd (Option.some.inj H) (by rw [hr_]; decide)
      ·rw [if_neg c42] at H
       exact absurd (Option.some.inj H) (by rw [hr_]; decide)
     ·rw [if_neg c39] at H
      exact absurd (Option.some.inj H) (by rw [hr_]; decide)
    ·rw [if_neg c38] at H
     exact absurd (Option.some.inj H) (by rw [hr_]; decide)
end Go.Proofs.Ytfihdlekeainpaa.Q
