-- By a program of this session (wip/tools/mk.py), out of the kit's print of the translation; Lean checks it.
import Derived.Test.YthemchggmlpdhaaUp
import Derived.Test.YthemchggmlpdhaaCopy
import Derived.Test.YthemchggmlpdhaaUp2
import Derived.Test.YthemchggmlpdhaaQ0
import Derived.Test.YthemchggmlpdhaaQ11
namespace Go.Proofs.Ythemchggmlpdhaa.Q
open Go.RowKit Go.Proofs.YthemchggmlpdhaaW.PrintWords Go.Proofs.YthemchggmlpdhaaW.PrintLast Go.Proofs.YthemchggmlpdhaaW.PrintMore
attribute [local go_sem] max2_int min2_int max_two min_two max_three min_three max_four min_four   -- for this text's walks alone
set_option linter.unusedVariables false
set_option linter.unusedSimpArgs false

/-! ### plane_part: function 48 -/
def plane_part.l0 : Nat → Int → Int → Int → Int → Int → List Int → Int → Int → Int → Int → List Int → Int → Int → Int → Int → Option (List Int)
 | 0, _, _, _, _, _, _, _, _, _, _, _, _, _, _, _ => none
 | k + 1, x6, x164000, x164001, x164002, x164003, x164004, x165000, x165001, x165002, x165003, x165004, x166000, x166001, x166002, x166003 => if x6 < x166003 then ((plane_width.f x164000 x164001 x164002 x164003 x164004).bind fun t166 => ((plane_width.f x165000 x165001 x165002 x165003 x165004).bind fun t167 => (if 0 ≤ (wrap64 ((wrap64 ((wrap64 ((wrap64 (x6 - x165001)) * t167)) + x166000)) - x165000)) then (if ((wrap64 ((wrap64 ((wrap64 ((wrap64 (x6 - x165001)) * t167)) + x166000)) - x165000)) ≤ (wrap64 ((wrap64 ((wrap64 ((wrap64 ((wrap64 ((wrap64 (x6 - x165001)) * t167)) + x166000)) - x165000)) + x166002)) - x166000)) ∧ (wrap64 ((wrap64 ((wrap64 ((wrap64 ((wrap64 ((wrap64 (x6 - x165001)) * t167)) + x166000)) - x165000)) + x166002)) - x166000)) ≤ (x165004.length : Int)) then (if 0 ≤ (wrap64 ((wrap64 ((wrap64 ((wrap64 (x6 - x164001)) * t166)) + x166000)) - x164000)) then (if ((wrap64 ((wrap64 ((wrap64 ((wrap64 (x6 - x164001)) * t166)) + x166000)) - x164000)) ≤ (wrap64 ((wrap64 ((wrap64 ((wrap64 ((wrap64 ((wrap64 (x6 - x164001)) * t166)) + x166000)) - x164000)) + x166002)) - x166000)) ∧ (wrap64 ((wrap64 ((wrap64 ((wrap64 ((wrap64 ((wrap64 (x6 - x164001)) * t166)) + x166000)) - x164000)) + x166002)) - x166000)) ≤ (x164004.length : Int)) then (plane_part.l0 k (wrap64 (x6 + 1)) x164000 x164001 x164002 x164003 (splice x164004 ((wrap64 ((wrap64 ((wrap64 ((wrap64 (x6 - x164001)) * t166)) + x166000)) - x164000)) : Int).toNat (List.take (((wrap64 ((wrap64 ((wrap64 ((wrap64 ((wrap64 ((wrap64 (x6 - x164001)) * t166)) + x166000)) - x164000)) + x166002)) - x166000)) : Int).toNat - ((wrap64 ((wrap64 ((wrap64 ((wrap64 (x6 - x164001)) * t166)) + x166000)) - x164000)) : Int).toNat) (List.drop ((wrap64 ((wrap64 ((wrap64 ((wrap64 (x6 - x165001)) * t167)) + x166000)) - x165000)) : Int).toNat (List.take ((wrap64 ((wrap64 ((wrap64 ((wrap64 ((wrap64 ((wrap64 (x6 - x165001)) * t167)) + x166000)) - x165000)) + x166002)) - x166000)) : Int).toNat x165004)))) x165000 x165001 x165002 x165003 x165004 x166000 x166001 x166002 x166003) else (none)) else (none)) else (none)) else (none)))) else (some x164004)
def plane_part.f (k : Nat) (a0_0 : Int) (a0_1 : Int) (a0_2 : Int) (a0_3 : Int) (l0_4 : List Int) (a1_0 : Int) (a1_1 : Int) (a1_2 : Int) (a1_3 : Int) (l1_4 : List Int) (a2_0 : Int) (a2_1 : Int) (a2_2 : Int) (a2_3 : Int) : Option (List Int) := plane_part.l0 k a2_1 a0_0 a0_1 a0_2 a0_3 l0_4 a1_0 a1_1 a1_2 a1_3 l1_4 a2_0 a2_1 a2_2 a2_3
theorem plane_part.mono_l : ∀ k, (∀ y0 y1 y2 y3 y4 y5 y6 y7 y8 y9 y10 y11 y12 y13 y14, LeO (plane_part.l0 k y0 y1 y2 y3 y4 y5 y6 y7 y8 y9 y10 y11 y12 y13 y14) (plane_part.l0 (k + 1) y0 y1 y2 y3 y4 y5 y6 y7 y8 y9 y10 y11 y12 y13 y14))
 | 0 => fun _ _ _ _ _ _ _ _ _ _ _ _ _ _ _ r h => by simp [plane_part.l0] at h
 | k + 1 => by
  have ih0 := plane_part.mono_l k
  ·intro y0 y1 y2 y3 y4 y5 y6 y7 y8 y9 y10 y11 y12 y13 y14
   unfold plane_part.l0
   repeat' first
   | (with_reducible exact ih0 _ _ _ _ _ _ _ _ _ _ _ _ _ _ _)
   | (with_reducible exact LeO.refl _)
   | (with_reducible exact LeO.none _)
   | (with_reducible refine LeO.ite ?_ ?_)
   | (with_reducible refine LeO.bind ?_ (fun _ => ?_))
   | exact ih0 _ _ _ _ _ _ _ _ _ _ _ _ _ _ _
   | exact LeO.none _
   | refine LeO.ite ?_ ?_
   | refine LeO.bind ?_ (fun _ => ?_)
theorem plane_part.mono : ∀ a0 a1 a2 a3 a4 a5 a6 a7 a8 a9 a10 a11 a12 a13 k, LeO (plane_part.f k a0 a1 a2 a3 a4 a5 a6 a7 a8 a9 a10 a11 a12 a13) (plane_part.f (k + 1) a0 a1 a2 a3 a4 a5 a6 a7 a8 a9 a10 a11 a12 a13) := by
 intro a0 a1 a2 a3 a4 a5 a6 a7 a8 a9 a10 a11 a12 a13 k
 have ih0 := plane_part.mono_l k
 unfold plane_part.f
 repeat' first
   | (with_reducible exact ih0 _ _ _ _ _ _ _ _ _ _ _ _ _ _ _)
   | (with_reducible exact LeO.refl _)
   | (with_reducible exact LeO.none _)
   | (with_reducible refine LeO.ite ?_ ?_)
   | (with_reducible refine LeO.bind ?_ (fun _ => ?_))
   | exact ih0 _ _ _ _ _ _ _ _ _ _ _ _ _ _ _
   | exact LeO.none _
   | refine LeO.ite ?_ ?_
   | refine LeO.bind ?_ (fun _ => ?_)
def plane_part.T4 : Bool × List (List Nat × List Nat) := (true, [([], []), ([], []), ([1], [1]), ([2], [2]), ([0, 3], [0, 3]), ([], []), ([5], [5]), ([4, 6], [4, 6]), ([], []), ([8], [8]), ([7, 9], [7, 9]), ([], []), ([11], [11]), ([12], [12]), ([10, 13], [10, 13]), ([14, 6, 0, 1, 2, 3, 4, 5, 6, 7, 8, 9, 10, 11, 12, 13, 14], [14])])
def plane_part.B4 : List Nat := [0, 0, 2, 6, 15, 0, 32, 127, 0, 256, 1023, 0, 2048, 6144, 16383, 32767]
theorem plane_part.tab4 : rtab .any (opsOf Try.f48 4) = plane_part.T4 := by kernel_rfl
theorem plane_part.bits4 : waitsOk plane_part.T4.2 plane_part.B4 = true := by kernel_rfl
def plane_part.T5 : Bool × List (List Nat × List Nat) := (true, [([], []), ([], []), ([1], [1]), ([2], [2]), ([0, 3], [0, 3]), ([], []), ([5], [5]), ([4, 6], [4, 6]), ([], []), ([8], [8]), ([7, 9], [7, 9]), ([], []), ([11], [11]), ([12], [12]), ([10, 13], [10, 13]), ([14, 6, 0, 1, 2, 3, 4, 5, 6, 7, 8, 9, 10, 11, 12, 13, 14], [14])])
def plane_part.B5 : List Nat := [0, 0, 2, 6, 15, 0, 32, 127, 0, 256, 1023, 0, 2048, 6144, 16383, 32767]
theorem plane_part.tab5 : rtab .any (opsOf Try.f48 5) = plane_part.T5 := by kernel_rfl
theorem plane_part.bits5 : waitsOk plane_part.T5.2 plane_part.B5 = true := by kernel_rfl
def plane_part.T6 : Bool × List (List Nat × List Nat) := (true, [([], []), ([0], [0]), ([], []), ([], []), ([], []), ([4], [4]), ([3, 5], [3, 5]), ([], []), ([7], [7]), ([6, 8], [6, 8]), ([1, 2, 9], [1, 2, 9]), ([], []), ([11], [11]), ([], []), ([], []), ([], []), ([15], [15]), ([14, 16], [14, 16]), ([], []), ([18], [18]), ([17, 19], [17, 19]), ([12, 13, 20], [12, 13, 20]), ([10, 21], [10, 21])])
def plane_part.B6 : List Nat := [0, 1, 0, 0, 0, 16, 56, 0, 128, 504, 1023, 0, 2048, 0, 0, 0, 32768, 114688, 0, 262144, 1032192, 2095104, 4194303]
theorem plane_part.tab6 : rtab .any (opsOf Try.f48 6) = plane_part.T6 := by kernel_rfl
theorem plane_part.bits6 : waitsOk plane_part.T6.2 plane_part.B6 = true := by kernel_rfl
set_option maxHeartbeats 8000000 in
set_option maxRecDepth 100000 in
theorem plane_part.calls (k : Nat) (a0_0 : Int) (a0_1 : Int) (a0_2 : Int) (a0_3 : Int) (P0_4_ : Nat → Prop) (u9000_ : Value) (l0_4 : List Int) (a1_0 : Int) (a1_1 : Int) (a1_2 : Int) (a1_3 : Int) (A1_4 : Option Addr) (c1_4 : Nat) (l1_4 : List Int) (a2_0 : Int) (a2_1 : Int) (a2_2 : Int) (a2_3 : Int) (r : List Int) (w0 w : World) (hB : Below w0.heap.size w0 w) (ho0_4 : Kd.R (Kd.int .i64) 3 w w0.heap.size P0_4_ u9000_ l0_4) (hr1_4 : ∀ W_, Kept w W_ (fun k_ => P0_4_ k_) → Kd.C (Kd.int .i64) W_ A1_4 l1_4.length l1_4) (hc1_4 : l1_4.length ≤ c1_4) (h : plane_part.f k a0_0 a0_1 a0_2 a0_3 l0_4 a1_0 a1_1 a1_2 a1_3 l1_4 a2_0 a2_1 a2_2 a2_3 = some r) :
  Calls Try.prog 48 #[.agg #[.int .i64 a0_0, .int .i64 a0_1, .int .i64 a0_2, .int .i64 a0_3, u9000_], .agg #[.int .i64 a1_0, .int .i64 a1_1, .int .i64 a1_2, .int .i64 a1_3, .slice A1_4 l1_4.length c1_4], .agg #[.int .i64 a2_0, .int .i64 a2_1, .int .i64 a2_2, .int .i64 a2_3]] w fun e w' => e = .returned (.tuple #[]) ∧ Kd.R (Kd.int .i64) 3 w' w0.heap.size (fun k_ => (P0_4_ k_ ∨ w.heap.size ≤ k_)) u9000_ r ∧ Below w0.heap.size w0 w' ∧ Kept w w' (fun k_ => P0_4_ k_) := by
 have hu26 := Try.underlying26
 have hu23 := Try.underlying23
 have HO0_4 := Aside0.mk (show Kd.R (Kd.int .i64) 3 w w0.heap.size (fun k_ => (P0_4_ k_ ∨ w.heap.size ≤ k_)) u9000_ l0_4 from Kd.R_mono ho0_4 (fun k_ hk => (.inl hk)))
 have HR1_4 := Aside0.mk hr1_4
 have HC1_4 := Aside0.mk hc1_4
 clear hr1_4 hc1_4
 have HK := Aside0.mk (Kept.refl w (fun k_ => P0_4_ k_))
 have HW0 := Aside0.mk hB.size
 have HB := Aside0.mk hB
 clear hB
 have H : (plane_part.l0 k a2_1 a0_0 a0_1 a0_2 a0_3 l0_4 a1_0 a1_1 a1_2 a1_3 l1_4 a2_0 a2_1 a2_2 a2_3) = some r := h
 clear h
 have H' := Aside0.mk H
 clear H
 obtain ⟨Ao4, co4, eo4⟩ := Kd.R_slice HO0_4.out
 subst eo4
 go_enter Try.func48, Try.ntmps48
 go_wp2_with (first | ((with_reducible refine gate_dst (N := 3) rfl ?_); refine box_event ?hg (N := 3) ?hd (cs := #[.int .i64 a0_0, .int .i64 a0_1, .int .i64 a0_2, .int .i64 a0_3, .slice Ao4 l0_4.length co4]) (t := 26) ?hr ?_; (case hd => rfl); (case hg => rfl); (case hr => first | (go_simp; done) | (go_simp; rfl)); intro gb163 hg w5 hbox hb; replace HO0_4 := Aside0.mk (Kd.R_below (upR HO0_4.out) hb); have BK163 := Aside0.mk (hbox); have GW163 := Aside0.mk ((by rw [hg]; exact (by first | exact HK.out.1 | exact (show Kept w _ (fun k_ => P0_4_ k_) from by repeat (first | (with_reducible first | exact HK.out | apply Kept.alloc | apply Kept.drewN | apply Kept.drew) | exact HK.out)).1) : w.heap.size ≤ gb163)); replace HK := Aside0.mk (Kept.below (S := (fun k_ => P0_4_ k_)) (by repeat (first | (with_reducible first | exact HK.out | apply Kept.alloc | apply Kept.drewN | apply Kept.drew) | exact HK.out)) hb); have GE163 := Aside0.mk ((by rw [hg]; exact (below_size (upB HB.out)) : w0.heap.size ≤ gb163)); replace HB := Aside0.mk (below_step (upB HB.out) hb); clear hb hbox hg) | ((with_reducible refine gate_dst (N := 4) rfl ?_); refine box_event ?hg (N := 4) ?hd (cs := #[.int .i64 a1_0, .int .i64 a1_1, .int .i64 a1_2, .int .i64 a1_3, .slice A1_4 l1_4.length c1_4]) (t := 26) ?hr ?_; (case hd => rfl); (case hg => rfl); (case hr => first | (go_simp; done) | (go_simp; rfl)); intro gb164 hg w6 hbox hb; replace HO0_4 := Aside0.mk (Kd.R_below (upR HO0_4.out) hb); have BK164 := Aside0.mk (hbox); have GW164 := Aside0.mk ((by rw [hg]; exact (by first | exact HK.out.1 | exact (show Kept w _ (fun k_ => P0_4_ k_) from by repeat (first | (with_reducible first | exact HK.out | apply Kept.alloc | apply Kept.drewN | apply Kept.drew | refine Kept.setCell ?_ (.inr GW163.out) _) | exact HK.out)).1) : w.heap.size ≤ gb164)); replace HK := Aside0.mk (Kept.below (S := (fun k_ => P0_4_ k_)) (by repeat (first | (with_reducible first | exact HK.out | apply Kept.alloc | apply Kept.drewN | apply Kept.drew | refine Kept.setCell ?_ (.inr GW163.out) _) | exact HK.out)) hb); have GE164 := Aside0.mk ((by rw [hg]; exact (below_size (upB HB.out)) : w0.heap.size ≤ gb164)); replace HB := Aside0.mk (below_step (upB HB.out) hb); have NB163_164 := Aside0.mk ((by rw [hg]; exact Nat.ne_of_lt (blk_lt (g := gb163) (o := .cells #[.int .i64 a0_0, .int .i64 a0_1, .int .i64 a0_2, .int .i64 a0_3, .slice Ao4 l0_4.length co4] 26 (0, 0)) (upK BK163.out)) : gb163 ≠ gb164)); have NB164_163 := Aside0.mk ((by rw [hg]; exact Nat.ne_of_gt (blk_lt (g := gb163) (o := .cells #[.int .i64 a0_0, .int .i64 a0_1, .int .i64 a0_2, .int .i64 a0_3, .slice Ao4 l0_4.length co4] 26 (0, 0)) (upK BK163.out)) : gb164 ≠ gb163)); replace BK163 := Aside0.mk (blk_below (g := gb163) (o := .cells #[.int .i64 a0_0, .int .i64 a0_1, .int .i64 a0_2, .int .i64 a0_3, .slice Ao4 l0_4.length co4] 26 (0, 0)) (upK BK163.out) hb); clear hb hbox hg) | ((with_reducible refine gate_dst (N := 5) rfl ?_); refine box_event ?hg (N := 5) ?hd (cs := #[.int .i64 a2_0, .int .i64 a2_1, .int .i64 a2_2, .int .i64 a2_3]) (t := 23) ?hr ?_; (case hd => rfl); (case hg => rfl); (case hr => first | (go_simp; done) | (go_simp; rfl)); intro gb165 hg w7 hbox hb; replace HO0_4 := Aside0.mk (Kd.R_below (upR HO0_4.out) hb); have BK165 := Aside0.mk (hbox); have GW165 := Aside0.mk ((by rw [hg]; exact (by first | exact HK.out.1 | exact (show Kept w _ (fun k_ => P0_4_ k_) from by repeat (first | (with_reducible first | exact HK.out | apply Kept.alloc | apply Kept.drewN | apply Kept.drew | refine Kept.setCell ?_ (.inr GW163.out) _ | refine Kept.setCell ?_ (.inr GW164.out) _) | exact HK.out)).1) : w.heap.size ≤ gb165)); replace HK := Aside0.mk (Kept.below (S := (fun k_ => P0_4_ k_)) (by repeat (first | (with_reducible first | exact HK.out | apply Kept.alloc | apply Kept.drewN | apply Kept.drew | refine Kept.setCell ?_ (.inr GW163.out) _ | refine Kept.setCell ?_ (.inr GW164.out) _) | exact HK.out)) hb); have GE165 := Aside0.mk ((by rw [hg]; exact (below_size (upB HB.out)) : w0.heap.size ≤ gb165)); replace HB := Aside0.mk (below_step (upB HB.out) hb); have NB163_165 := Aside0.mk ((by rw [hg]; exact Nat.ne_of_lt (blk_lt (g := gb163) (o := .cells #[.int .i64 a0_0, .int .i64 a0_1, .int .i64 a0_2, .int .i64 a0_3, .slice Ao4 l0_4.length co4] 26 (0, 0)) (upK BK163.out)) : gb163 ≠ gb165)); have NB165_163 := Aside0.mk ((by rw [hg]; exact Nat.ne_of_gt (blk_lt (g := gb163) (o := .cells #[.int .i64 a0_0, .int .i64 a0_1, .int .i64 a0_2, .int .i64 a0_3, .slice Ao4 l0_4.length co4] 26 (0, 0)) (upK BK163.out)) : gb165 ≠ gb163)); replace BK163 := Aside0.mk (blk_below (g := gb163) (o := .cells #[.int .i64 a0_0, .int .i64 a0_1, .int .i64 a0_2, .int .i64 a0_3, .slice Ao4 l0_4.length co4] 26 (0, 0)) (upK BK163.out) hb); have NB164_165 := Aside0.mk ((by rw [hg]; exact Nat.ne_of_lt (blk_lt (g := gb164) (o := .cells #[.int .i64 a1_0, .int .i64 a1_1, .int .i64 a1_2, .int .i64 a1_3, .slice A1_4 l1_4.length c1_4] 26 (0, 0)) (upK BK164.out)) : gb164 ≠ gb165)); have NB165_164 := Aside0.mk ((by rw [hg]; exact Nat.ne_of_gt (blk_lt (g := gb164) (o := .cells #[.int .i64 a1_0, .int .i64 a1_1, .int .i64 a1_2, .int .i64 a1_3, .slice A1_4 l1_4.length c1_4] 26 (0, 0)) (upK BK164.out)) : gb165 ≠ gb164)); replace BK164 := Aside0.mk (blk_below (g := gb164) (o := .cells #[.int .i64 a1_0, .int .i64 a1_1, .int .i64 a1_2, .int .i64 a1_3, .slice A1_4 l1_4.length c1_4] 26 (0, 0)) (upK BK164.out) hb); clear hb hbox hg; have hnb8 := NB165_163.out; have hnc8 := NB163_165.out; have hnb9 := NB165_164.out; have hnc9 := NB164_165.out; have hcz10_0 : w7.cell? ⟨gb165, 0, none⟩ = some (.int .i64 a2_0) := bc BK165 0; have hcz10_1 : w7.cell? ⟨gb165, 1, none⟩ = some (.int .i64 a2_1) := bc BK165 1; have hcz10_2 : w7.cell? ⟨gb165, 2, none⟩ = some (.int .i64 a2_2) := bc BK165 2; have hcz10_3 : w7.cell? ⟨gb165, 3, none⟩ = some (.int .i64 a2_3) := bc BK165 3; have hfz10_0 := blk_frozen BK165.out 0; have hfz10_1 := blk_frozen BK165.out 1; have hfz10_2 := blk_frozen BK165.out 2; have hfz10_3 := blk_frozen BK165.out 3))
 go_loopg [6] k (fun kq v6 w' => ∃ (x6_1 : Int) (x164004_1 : List Int), v6 = .int .i64 x6_1 ∧ Aside0 (plane_part.l0 kq x6_1 a0_0 a0_1 a0_2 a0_3 x164004_1 a1_0 a1_1 a1_2 a1_3 l1_4 a2_0 a2_1 a2_2 a2_3 = some r) ∧ Aside0 (kq ≤ k) ∧ Aside0 (Kd.R (Kd.int .i64) 3 w' w0.heap.size (fun k_ => (P0_4_ k_ ∨ w.heap.size ≤ k_)) (.slice Ao4 l0_4.length co4) x164004_1) ∧ Aside0 (w'.heap[gb163]? = some (.cells #[.int .i64 a0_0, .int .i64 a0_1, .int .i64 a0_2, .int .i64 a0_3, (.slice Ao4 l0_4.length co4)] 26 (0, 0))) ∧ Aside0 (w'.heap[gb164]? = some (.cells #[.int .i64 a1_0, .int .i64 a1_1, .int .i64 a1_2, .int .i64 a1_3, (.slice A1_4 l1_4.length c1_4)] 26 (0, 0))) ∧ Aside0 (w'.heap[gb165]? = some (.cells #[.int .i64 a2_0, .int .i64 a2_1, .int .i64 a2_2, .int .i64 a2_3] 23 (0, 0))) ∧ Aside0 (Kept w w' (fun k_ => P0_4_ k_)) ∧ Aside0 (Below w0.heap.size w0 w'))
 case atStart => exact ⟨(a2_1), (l0_4), (by first | rfl | (simp; done) | (simp [*]; done)), H', ⟨Nat.le_refl _⟩, ⟨by (with_reducible repeat (first | apply Kd.R_alloc | apply Kd.R_drewN | apply Kd.R_drew)); exact HO0_4.out⟩, ⟨by (with_reducible repeat (first | refine blk_drewN ?_ _ | refine blk_drew ?_ | refine blk_alloc ?_ _)); exact BK163.out⟩, ⟨by (with_reducible repeat (first | refine blk_drewN ?_ _ | refine blk_drew ?_ | refine blk_alloc ?_ _)); exact BK164.out⟩, ⟨by (with_reducible repeat (first | refine blk_drewN ?_ _ | refine blk_drew ?_ | refine blk_alloc ?_ _)); exact BK165.out⟩, ⟨by repeat (first | (with_reducible first | exact HK.out | apply Kept.alloc | apply Kept.drewN | apply Kept.drew | refine Kept.setCell ?_ (.inr GW163.out) _ | refine Kept.setCell ?_ (.inr GW164.out) _ | refine Kept.setCell ?_ (.inr GW165.out) _) | exact HK.out)⟩, ⟨by repeat (first | (with_reducible first | exact HB.out | apply below_alloc | apply pw_below_drewN | apply below_drew1 | refine below_set ?_ GE163.out | refine below_set ?_ GE164.out | refine below_set ?_ GE165.out) | exact HB.out)⟩⟩
 case round =>
  clear H'
  try clear c1; try clear p2; try clear c4; try clear c8; try clear c9; try clear hcz10_0; try clear hcz10_1; try clear hcz10_2; try clear hcz10_3; try clear hfz10_0; try clear hfz10_1; try clear hfz10_2; try clear hfz10_3
  obtain ⟨x6_1, x164004_1, rfl, HA, HK1, HO_164004, BK163, BK164, BK165, HK, HB⟩ := hrel
  have hl164004_1 := (Kd.R_reads' HO_164004.out).1
  rw [hl164004_1] at HO_164004
  (try simp only [hl164004_1])
  (try simp only [hl164004_1] at BK163)
  (try simp only [hl164004_1] at BK164)
  (try simp only [hl164004_1] at BK165)
  cases gk with
  | zero => exact absurd HA.out (by simp [plane_part.l0])
  | succ k1 =>
   have H := HA.out
   clear HA
   simp only [plane_part.l0] at H
   by_cases c11 : x6_1 < a2_3
   ·rw [if_pos c11] at H
    have c11b0 : decide (x6_1 < a2_3) = true := decide_eq_true c11
    clear c11
    replace H := Option.bind_eq_some_iff.mp H
    obtain ⟨t166, A120, H⟩ := H
    replace H : ((plane_width.f a1_0 a1_1 a1_2 a1_3 l1_4).bind fun t167 => (if 0 ≤ (wrap64 ((wrap64 ((wrap64 ((wrap64 (x6_1 - a1_1)) * t167)) + a2_0)) - a1_0)) then (if ((wrap64 ((wrap64 ((wrap64 ((wrap64 (x6_1 - a1_1)) * t167)) + a2_0)) - a1_0)) ≤ (wrap64 ((wrap64 ((wrap64 ((wrap64 ((wrap64 ((wrap64 (x6_1 - a1_1)) * t167)) + a2_0)) - a1_0)) + a2_2)) - a2_0)) ∧ (wrap64 ((wrap64 ((wrap64 ((wrap64 ((wrap64 ((wrap64 (x6_1 - a1_1)) * t167)) + a2_0)) - a1_0)) + a2_2)) - a2_0)) ≤ (l1_4.length : Int)) then (if 0 ≤ (wrap64 ((wrap64 ((wrap64 ((wrap64 (x6_1 - a0_1)) * t166)) + a2_0)) - a0_0)) then (if ((wrap64 ((wrap64 ((wrap64 ((wrap64 (x6_1 - a0_1)) * t166)) + a2_0)) - a0_0)) ≤ (wrap64 ((wrap64 ((wrap64 ((wrap64 ((wrap64 ((wrap64 (x6_1 - a0_1)) * t166)) + a2_0)) - a0_0)) + a2_2)) - a2_0)) ∧ (wrap64 ((wrap64 ((wrap64 ((wrap64 ((wrap64 ((wrap64 (x6_1 - a0_1)) * t166)) + a2_0)) - a0_0)) + a2_2)) - a2_0)) ≤ (x164004_1.length : Int)) then (plane_part.l0 k1 (wrap64 (x6_1 + 1)) a0_0 a0_1 a0_2 a0_3 (splice x164004_1 ((wrap64 ((wrap64 ((wrap64 ((wrap64 (x6_1 - a0_1)) * t166)) + a2_0)) - a0_0)) : Int).toNat (List.take (((wrap64 ((wrap64 ((wrap64 ((wrap64 ((wrap64 ((wrap64 (x6_1 - a0_1)) * t166)) + a2_0)) - a0_0)) + a2_2)) - a2_0)) : Int).toNat - ((wrap64 ((wrap64 ((wrap64 ((wrap64 (x6_1 - a0_1)) * t166)) + a2_0)) - a0_0)) : Int).toNat) (List.drop ((wrap64 ((wrap64 ((wrap64 ((wrap64 (x6_1 - a1_1)) * t167)) + a2_0)) - a1_0)) : Int).toNat (List.take ((wrap64 ((wrap64 ((wrap64 ((wrap64 ((wrap64 ((wrap64 (x6_1 - a1_1)) * t167)) + a2_0)) - a1_0)) + a2_2)) - a2_0)) : Int).toNat l1_4)))) a1_0 a1_1 a1_2 a1_3 l1_4 a2_0 a2_1 a2_2 a2_3) else (none)) else (none)) else (none)) else (none))) = some r := H
    have A12 := Aside0.mk A120
    clear A120
    replace H := Option.bind_eq_some_iff.mp H
    obtain ⟨t167, A130, H⟩ := H
    replace H : (if 0 ≤ (wrap64 ((wrap64 ((wrap64 ((wrap64 (x6_1 - a1_1)) * t167)) + a2_0)) - a1_0)) then (if ((wrap64 ((wrap64 ((wrap64 ((wrap64 (x6_1 - a1_1)) * t167)) + a2_0)) - a1_0)) ≤ (wrap64 ((wrap64 ((wrap64 ((wrap64 ((wrap64 ((wrap64 (x6_1 - a1_1)) * t167)) + a2_0)) - a1_0)) + a2_2)) - a2_0)) ∧ (wrap64 ((wrap64 ((wrap64 ((wrap64 ((wrap64 ((wrap64 (x6_1 - a1_1)) * t167)) + a2_0)) - a1_0)) + a2_2)) - a2_0)) ≤ (l1_4.length : Int)) then (if 0 ≤ (wrap64 ((wrap64 ((wrap64 ((wrap64 (x6_1 - a0_1)) * t166)) + a2_0)) - a0_0)) then (if ((wrap64 ((wrap64 ((wrap64 ((wrap64 (x6_1 - a0_1)) * t166)) + a2_0)) - a0_0)) ≤ (wrap64 ((wrap64 ((wrap64 ((wrap64 ((wrap64 ((wrap64 (x6_1 - a0_1)) * t166)) + a2_0)) - a0_0)) + a2_2)) - a2_0)) ∧ (wrap64 ((wrap64 ((wrap64 ((wrap64 ((wrap64 ((wrap64 (x6_1 - a0_1)) * t166)) + a2_0)) - a0_0)) + a2_2)) - a2_0)) ≤ (x164004_1.length : Int)) then (plane_part.l0 k1 (wrap64 (x6_1 + 1)) a0_0 a0_1 a0_2 a0_3 (splice x164004_1 ((wrap64 ((wrap64 ((wrap64 ((wrap64 (x6_1 - a0_1)) * t166)) + a2_0)) - a0_0)) : Int).toNat (List.take (((wrap64 ((wrap64 ((wrap64 ((wrap64 ((wrap64 ((wrap64 (x6_1 - a0_1)) * t166)) + a2_0)) - a0_0)) + a2_2)) - a2_0)) : Int).toNat - ((wrap64 ((wrap64 ((wrap64 ((wrap64 (x6_1 - a0_1)) * t166)) + a2_0)) - a0_0)) : Int).toNat) (List.drop ((wrap64 ((wrap64 ((wrap64 ((wrap64 (x6_1 - a1_1)) * t167)) + a2_0)) - a1_0)) : Int).toNat (List.take ((wrap64 ((wrap64 ((wrap64 ((wrap64 ((wrap64 ((wrap64 (x6_1 - a1_1)) * t167)) + a2_0)) - a1_0)) + a2_2)) - a2_0)) : Int).toNat l1_4)))) a1_0 a1_1 a1_2 a1_3 l1_4 a2_0 a2_1 a2_2 a2_3) else (none)) else (none)) else (none)) else (none)) = some r := H
    have A13 := Aside0.mk A130
    clear A130
    obtain ⟨ji14, hji14⟩ : ∃ j_ : Int, (wrap64 ((wrap64 ((wrap64 ((wrap64 (x6_1 - a1_1)) * t167)) + a2_0)) - a1_0)) = j_ := ⟨_, rfl⟩
    replace H : (if 0 ≤ (ji14) then (if ((ji14) ≤ (wrap64 ((wrap64 ((ji14) + a2_2)) - a2_0)) ∧ (wrap64 ((wrap64 ((ji14) + a2_2)) - a2_0)) ≤ (l1_4.length : Int)) then (if 0 ≤ (wrap64 ((wrap64 ((wrap64 ((wrap64 (x6_1 - a0_1)) * t166)) + a2_0)) - a0_0)) then (if ((wrap64 ((wrap64 ((wrap64 ((wrap64 (x6_1 - a0_1)) * t166)) + a2_0)) - a0_0)) ≤ (wrap64 ((wrap64 ((wrap64 ((wrap64 ((wrap64 ((wrap64 (x6_1 - a0_1)) * t166)) + a2_0)) - a0_0)) + a2_2)) - a2_0)) ∧ (wrap64 ((wrap64 ((wrap64 ((wrap64 ((wrap64 ((wrap64 (x6_1 - a0_1)) * t166)) + a2_0)) - a0_0)) + a2_2)) - a2_0)) ≤ (x164004_1.length : Int)) then (plane_part.l0 k1 (wrap64 (x6_1 + 1)) a0_0 a0_1 a0_2 a0_3 (splice x164004_1 ((wrap64 ((wrap64 ((wrap64 ((wrap64 (x6_1 - a0_1)) * t166)) + a2_0)) - a0_0)) : Int).toNat (List.take (((wrap64 ((wrap64 ((wrap64 ((wrap64 ((wrap64 ((wrap64 (x6_1 - a0_1)) * t166)) + a2_0)) - a0_0)) + a2_2)) - a2_0)) : Int).toNat - ((wrap64 ((wrap64 ((wrap64 ((wrap64 (x6_1 - a0_1)) * t166)) + a2_0)) - a0_0)) : Int).toNat) (List.drop ((ji14) : Int).toNat (List.take ((wrap64 ((wrap64 ((ji14) + a2_2)) - a2_0)) : Int).toNat l1_4)))) a1_0 a1_1 a1_2 a1_3 l1_4 a2_0 a2_1 a2_2 a2_3) else (none)) else (none)) else (none)) else (none)) = some r := by first | (rw [hji14] at H; exact H) | (simp only [hji14] at H ⊢; exact H)
    (try rw [hji14] at A12)
    (try rw [hji14] at A13)
    have hji14w : (IntKind.i64.wrap ((wrap64 ((wrap64 ((wrap64 (x6_1 - a1_1)) * t167)) + a2_0)) - a1_0)) = ji14 := (i64_w _).trans hji14
    by_cases c15 : 0 ≤ (ji14)
    ·rw [if_pos c15] at H
     have c15b0 : decide (0 ≤ (ji14)) = true := decide_eq_true c15
     clear c15
     by_cases c16 : ((ji14) ≤ (wrap64 ((wrap64 ((ji14) + a2_2)) - a2_0)) ∧ (wrap64 ((wrap64 ((ji14) + a2_2)) - a2_0)) ≤ (l1_4.length : Int))
     ·rw [if_pos c16] at H
      have c16b0 : decide (((ji14) ≤ (wrap64 ((wrap64 ((ji14) + a2_2)) - a2_0)) ∧ (wrap64 ((wrap64 ((ji14) + a2_2)) - a2_0)) ≤ (l1_4.length : Int))) = true := decide_eq_true c16
      clear c16
      obtain ⟨ji17, hji17⟩ : ∃ j_ : Int, (wrap64 ((wrap64 ((wrap64 ((wrap64 (x6_1 - a0_1)) * t166)) + a2_0)) - a0_0)) = j_ := ⟨_, rfl⟩
      replace H : (if 0 ≤ (ji17) then (if ((ji17) ≤ (wrap64 ((wrap64 ((ji17) + a2_2)) - a2_0)) ∧ (wrap64 ((wrap64 ((ji17) + a2_2)) - a2_0)) ≤ (x164004_1.length : Int)) then (plane_part.l0 k1 (wrap64 (x6_1 + 1)) a0_0 a0_1 a0_2 a0_3 (splice x164004_1 ((ji17) : Int).toNat (List.take (((wrap64 ((wrap64 ((ji17) + a2_2)) - a2_0)) : Int).toNat - ((ji17) : Int).toNat) (List.drop ((ji14) : Int).toNat (List.take ((wrap64 ((wrap64 ((ji14) + a2_2)) - a2_0)) : Int).toNat l1_4)))) a1_0 a1_1 a1_2 a1_3 l1_4 a2_0 a2_1 a2_2 a2_3) else (none)) else (none)) = some r := by first | (rw [hji17] at H; exact H) | (simp only [hji17] at H ⊢; exact H)
      (try rw [hji17] at A12)
      (try rw [hji17] at A13)
      have hji17w : (IntKind.i64.wrap ((wrap64 ((wrap64 ((wrap64 (x6_1 - a0_1)) * t166)) + a2_0)) - a0_0)) = ji17 := (i64_w _).trans hji17
      by_cases c18 : 0 ≤ (ji17)
      ·rw [if_pos c18] at H
       have c18b0 : decide (0 ≤ (ji17)) = true := decide_eq_true c18
       clear c18
       by_cases c19 : ((ji17) ≤ (wrap64 ((wrap64 ((ji17) + a2_2)) - a2_0)) ∧ (wrap64 ((wrap64 ((ji17) + a2_2)) - a2_0)) ≤ (x164004_1.length : Int))
       ·rw [if_pos c19] at H
        have c19b0 : decide (((ji17) ≤ (wrap64 ((wrap64 ((ji17) + a2_2)) - a2_0)) ∧ (wrap64 ((wrap64 ((ji17) + a2_2)) - a2_0)) ≤ (x164004_1.length : Int))) = true := decide_eq_true c19
        clear c19
        obtain ⟨y169, hy169⟩ : ∃ y_ : List Int, y_ = (splice x164004_1 ((ji17) : Int).toNat (List.take (((wrap64 ((wrap64 ((ji17) + a2_2)) - a2_0)) : Int).toNat - ((ji17) : Int).toNat) (List.drop ((ji14) : Int).toNat (List.take ((wrap64 ((wrap64 ((ji14) + a2_2)) - a2_0)) : Int).toNat l1_4)))) := ⟨_, rfl⟩
        replace H : (plane_part.l0 k1 (wrap64 (x6_1 + 1)) a0_0 a0_1 a0_2 a0_3 y169 a1_0 a1_1 a1_2 a1_3 l1_4 a2_0 a2_1 a2_2 a2_3) = some r := by first | (rw [hy169]; with_reducible exact H) | (have H2_ := (Option.bind_some _ _).symm.trans H; rw [hy169]; with_reducible exact H2_) | (have H2_ := (Option.bind_some _ _).symm.trans H; with_reducible exact H2_) | with_reducible exact H | (rw [hy169]; exact H) | exact H
        have Ny169 := Aside0.mk hy169
        clear hy169
        have H' := Aside0.mk H
        clear H
        have hnb21 := NB165_163.out
        have hnc21 := NB163_165.out
        have hnb22 := NB165_164.out
        have hnc22 := NB164_165.out
        have hcz23_0 : wr.cell? ⟨gb165, 0, none⟩ = some (.int .i64 a2_0) := bc BK165 0
        have hcz23_1 : wr.cell? ⟨gb165, 1, none⟩ = some (.int .i64 a2_1) := bc BK165 1
        have hcz23_2 : wr.cell? ⟨gb165, 2, none⟩ = some (.int .i64 a2_2) := bc BK165 2
        have hcz23_3 : wr.cell? ⟨gb165, 3, none⟩ = some (.int .i64 a2_3) := bc BK165 3
        have hfz23_0 := blk_frozen BK165.out 0
        have hfz23_1 := blk_frozen BK165.out 1
        have hfz23_2 := blk_frozen BK165.out 2
        have hfz23_3 := blk_frozen BK165.out 3
        try go_wp2
        replace HO_164004 := Aside0.mk (Kd.R_drew HO_164004.out)
        replace BK163 := Aside0.mk (blk_drew BK163.out)
        replace BK164 := Aside0.mk (blk_drew BK164.out)
        replace BK165 := Aside0.mk (blk_drew BK165.out)
        replace HK := Aside0.mk (Kept.drew HK.out)
        replace HB := Aside0.mk (below_drew1 HB.out)
        refine start_ (n := 16) (S := fun w' => ce w' gb163 0 (.int .i64 a0_0) ∧ ce w' gb163 1 (.int .i64 a0_1) ∧ ce w' gb163 2 (.int .i64 a0_2) ∧ ce w' gb163 3 (.int .i64 a0_3) ∧ ce w' gb163 4 (.slice Ao4 x164004_1.length co4) ∧ ce w' gb165 0 (.int .i64 a2_0) ∧ ce w' gb165 1 (.int .i64 a2_1) ∧ ce w' gb165 2 (.int .i64 a2_2) ∧ ce w' gb165 3 (.int .i64 a2_3)) (ds := []) #[false, false, false, false, false, false, false, false, false, false, false, false, false, false, false, false] (by kernel_rfl) rfl rfl ⟨bc BK163 0, bc BK163 1, bc BK163 2, bc BK163 3, bc BK163 4, bc BK165 0, bc BK165 1, bc BK165 2, bc BK165 3⟩ (fun hHeld => ?_); refine with_tabW plane_part.tab4 plane_part.bits4 (fun HT_ HW_ => ?_)
        generalize wr.drew = w24 at HO_164004 BK163 BK164 BK165 HK HB hHeld ⊢
        refine puX 0 17 (MK [1, 15]) HT_.out ?_
        refine puX 1 18 (MK [2, 14]) HT_.out ?_
        refine puX 2 19 (MK [3, 13]) HT_.out ?_
        refine puX 8 25 (MK [3, 5, 1, 7]) HT_.out ?_
        refine puX 11 28 (MK [3, 5, 1, 2, 1, 4]) HT_.out ?_
        refine puX 12 29 (MK [3, 5, 1, 2, 2, 3]) HT_.out ?_
        refine taX 3 20 (MK [4, 4, 1, 2, 2, 3]) HT_.out HW_.out hHeld ?_
        refine puX 4 21 (MK [5, 3, 1, 2, 2, 3]) HT_.out ?_
        refine taX 5 22 (MK [6, 2, 1, 2, 2, 3]) HT_.out HW_.out hHeld ?_
        refine taX 9 26 (MK [6, 2, 2, 1, 2, 3]) HT_.out HW_.out hHeld ?_
        refine taX 13 30 (MK [6, 2, 2, 1, 3, 2]) HT_.out HW_.out hHeld ?_
        refine onX 6 23 (MK [7, 1, 2, 1, 3, 2]) HT_.out (fun K hK => ?_)
        refine goes_ Try.func43 (by kernel_rfl) rfl #[.agg #[.int .i64 a0_0, .int .i64 a0_1, .int .i64 a0_2, .int .i64 a0_3, .slice Ao4 x164004_1.length co4]] (by rfl) rfl rfl upL ?_
        with_reducible refine (plane_width.calls a0_0 a0_1 a0_2 a0_3 _ _ x164004_1 t166 _ ?side1 ?side2 A12.out).mono ?_
        (case side1 => repeat (first | exact (Kd.R_reads' HO_164004.out).2.2 | (with_reducible refine Kd.C_alloc ?_ _) | (with_reducible refine Kd.C_drewN ?_ _) | (with_reducible refine Kd.C_drew ?_)))
        (case side2 => exact (Kd.R_reads' HO_164004.out).2.1)
        rintro e w25 ⟨rfl, hb⟩
        refine ⟨_, rfl, ?_⟩
        replace HO_164004 := Aside0.mk (Kd.R_below (upR HO_164004.out) hb)
        replace BK163 := Aside0.mk (blk_below (g := gb163) (o := .cells #[.int .i64 a0_0, .int .i64 a0_1, .int .i64 a0_2, .int .i64 a0_3, .slice Ao4 x164004_1.length co4] 26 (0, 0)) (upK BK163.out) hb)
        replace BK164 := Aside0.mk (blk_below (g := gb164) (o := .cells #[.int .i64 a1_0, .int .i64 a1_1, .int .i64 a1_2, .int .i64 a1_3, .slice A1_4 l1_4.length c1_4] 26 (0, 0)) (upK BK164.out) hb)
        replace BK165 := Aside0.mk (blk_below (g := gb165) (o := .cells #[.int .i64 a2_0, .int .i64 a2_1, .int .i64 a2_2, .int .i64 a2_3] 23 (0, 0)) (upK BK165.out) hb)
        replace HK := Aside0.mk (Kept.below (S := (fun k_ => P0_4_ k_)) (by repeat (first | (with_reducible first | exact HK.out | apply Kept.alloc | apply Kept.drewN | apply Kept.drew | refine Kept.setCell ?_ (.inr GW163.out) _ | refine Kept.setCell ?_ (.inr GW164.out) _ | refine Kept.setCell ?_ (.inr GW165.out) _) | exact HK.out)) hb)
        replace HB := Aside0.mk (below_step (upB HB.out) hb)
        (try clear hb); (try clear hb2); (try clear hk); (try clear hi)
        refine hK.out _ _ ⟨bc BK163 0, bc BK163 1, bc BK163 2, bc BK163 3, bc BK163 4, bc BK165 0, bc BK165 1, bc BK165 2, bc BK165 3⟩ (fun hHeld => ?_)
        clear hK K
        refine noX ?_
        refine puX 7 24 (MK [10, 1, 3, 2]) HT_.out ?_
        refine puX 10 27 (MK [14, 2]) HT_.out ?_
        refine puX 14 31 (MK [15, 1]) HT_.out ?_
        refine puX 15 7 (MK [16]) HT_.out ?_
        refine done_ (done_of HT_.out (by kernel_rfl)) ?_
        try go_wp2
        replace HO_164004 := Aside0.mk (Kd.R_drew HO_164004.out)
        replace BK163 := Aside0.mk (blk_drew BK163.out)
        replace BK164 := Aside0.mk (blk_drew BK164.out)
        replace BK165 := Aside0.mk (blk_drew BK165.out)
        replace HK := Aside0.mk (Kept.drew HK.out)
        replace HB := Aside0.mk (below_drew1 HB.out)
        refine start_ (n := 16) (S := fun w' => ce w' gb164 0 (.int .i64 a1_0) ∧ ce w' gb164 1 (.int .i64 a1_1) ∧ ce w' gb164 2 (.int .i64 a1_2) ∧ ce w' gb164 3 (.int .i64 a1_3) ∧ ce w' gb164 4 (.slice A1_4 l1_4.length c1_4) ∧ ce w' gb165 0 (.int .i64 a2_0) ∧ ce w' gb165 1 (.int .i64 a2_1) ∧ ce w' gb165 2 (.int .i64 a2_2) ∧ ce w' gb165 3 (.int .i64 a2_3)) (ds := []) #[false, false, false, false, false, false, false, false, false, false, false, false, false, false, false, false] (by kernel_rfl) rfl rfl ⟨bc BK164 0, bc BK164 1, bc BK164 2, bc BK164 3, bc BK164 4, bc BK165 0, bc BK165 1, bc BK165 2, bc BK165 3⟩ (fun hHeld => ?_); refine with_tabW plane_part.tab5 plane_part.bits5 (fun HT_ HW_ => ?_)
        generalize w25.drew = w26 at HO_164004 BK163 BK164 BK165 HK HB hHeld ⊢
        refine puX 0 32 (MK [1, 15]) HT_.out ?_
        refine puX 1 33 (MK [2, 14]) HT_.out ?_
        refine puX 2 34 (MK [3, 13]) HT_.out ?_
        refine puX 8 40 (MK [3, 5, 1, 7]) HT_.out ?_
        refine puX 11 43 (MK [3, 5, 1, 2, 1, 4]) HT_.out ?_
        refine puX 12 44 (MK [3, 5, 1, 2, 2, 3]) HT_.out ?_
        refine taX 3 35 (MK [4, 4, 1, 2, 2, 3]) HT_.out HW_.out hHeld ?_
        refine puX 4 36 (MK [5, 3, 1, 2, 2, 3]) HT_.out ?_
        refine taX 5 37 (MK [6, 2, 1, 2, 2, 3]) HT_.out HW_.out hHeld ?_
        refine taX 9 41 (MK [6, 2, 2, 1, 2, 3]) HT_.out HW_.out hHeld ?_
        refine taX 13 45 (MK [6, 2, 2, 1, 3, 2]) HT_.out HW_.out hHeld ?_
        refine onX 6 38 (MK [7, 1, 2, 1, 3, 2]) HT_.out (fun K hK => ?_)
        refine goes_ Try.func43 (by kernel_rfl) rfl #[.agg #[.int .i64 a1_0, .int .i64 a1_1, .int .i64 a1_2, .int .i64 a1_3, .slice A1_4 l1_4.length c1_4]] (by rfl) rfl rfl upL ?_
        with_reducible refine (plane_width.calls a1_0 a1_1 a1_2 a1_3 _ _ l1_4 t167 _ ?side1 ?side2 A13.out).mono ?_
        (case side1 => exact Kd.C_kept_now HR1_4.out (by repeat (first | (with_reducible first | exact HK.out | apply Kept.alloc | apply Kept.drewN | apply Kept.drew | refine Kept.setCell ?_ (.inr GW163.out) _ | refine Kept.setCell ?_ (.inr GW164.out) _ | refine Kept.setCell ?_ (.inr GW165.out) _) | exact HK.out)))
        (case side2 => exact HC1_4.out)
        rintro e w27 ⟨rfl, hb⟩
        refine ⟨_, rfl, ?_⟩
        replace HO_164004 := Aside0.mk (Kd.R_below (upR HO_164004.out) hb)
        replace BK163 := Aside0.mk (blk_below (g := gb163) (o := .cells #[.int .i64 a0_0, .int .i64 a0_1, .int .i64 a0_2, .int .i64 a0_3, .slice Ao4 x164004_1.length co4] 26 (0, 0)) (upK BK163.out) hb)
        replace BK164 := Aside0.mk (blk_below (g := gb164) (o := .cells #[.int .i64 a1_0, .int .i64 a1_1, .int .i64 a1_2, .int .i64 a1_3, .slice A1_4 l1_4.length c1_4] 26 (0, 0)) (upK BK164.out) hb)
        replace BK165 := Aside0.mk (blk_below (g := gb165) (o := .cells #[.int .i64 a2_0, .int .i64 a2_1, .int .i64 a2_2, .int .i64 a2_3] 23 (0, 0)) (upK BK165.out) hb)
        replace HK := Aside0.mk (Kept.below (S := (fun k_ => P0_4_ k_)) (by repeat (first | (with_reducible first | exact HK.out | apply Kept.alloc | apply Kept.drewN | apply Kept.drew | refine Kept.setCell ?_ (.inr GW163.out) _ | refine Kept.setCell ?_ (.inr GW164.out) _ | refine Kept.setCell ?_ (.inr GW165.out) _) | exact HK.out)) hb)
        replace HB := Aside0.mk (below_step (upB HB.out) hb)
        (try clear hb); (try clear hb2); (try clear hk); (try clear hi)
        refine hK.out _ _ ⟨bc BK164 0, bc BK164 1, bc BK164 2, bc BK164 3, bc BK164 4, bc BK165 0, bc BK165 1, bc BK165 2, bc BK165 3⟩ (fun hHeld => ?_)
        clear hK K
        refine noX ?_
        refine puX 7 39 (MK [10, 1, 3, 2]) HT_.out ?_
        refine puX 10 42 (MK [14, 2]) HT_.out ?_
        refine puX 14 46 (MK [15, 1]) HT_.out ?_
        refine puX 15 8 (MK [16]) HT_.out ?_
        refine done_ (done_of HT_.out (by kernel_rfl)) ?_
        have hnb28 := NB163_164.out
        have hnc28 := NB164_163.out
        have hcz29_0 : w27.cell? ⟨gb163, 0, none⟩ = some (.int .i64 a0_0) := bc BK163 0
        have hcz29_1 : w27.cell? ⟨gb163, 1, none⟩ = some (.int .i64 a0_1) := bc BK163 1
        have hcz29_2 : w27.cell? ⟨gb163, 2, none⟩ = some (.int .i64 a0_2) := bc BK163 2
        have hcz29_3 : w27.cell? ⟨gb163, 3, none⟩ = some (.int .i64 a0_3) := bc BK163 3
        have hcz29_4 : w27.cell? ⟨gb163, 4, none⟩ = some (.slice Ao4 x164004_1.length co4) := bc BK163 4
        have hfz29_0 := blk_frozen BK163.out 0
        have hfz29_1 := blk_frozen BK163.out 1
        have hfz29_2 := blk_frozen BK163.out 2
        have hfz29_3 := blk_frozen BK163.out 3
        have hfz29_4 := blk_frozen BK163.out 4
        have hcz30_0 : w27.cell? ⟨gb164, 0, none⟩ = some (.int .i64 a1_0) := bc BK164 0
        have hcz30_1 : w27.cell? ⟨gb164, 1, none⟩ = some (.int .i64 a1_1) := bc BK164 1
        have hcz30_2 : w27.cell? ⟨gb164, 2, none⟩ = some (.int .i64 a1_2) := bc BK164 2
        have hcz30_3 : w27.cell? ⟨gb164, 3, none⟩ = some (.int .i64 a1_3) := bc BK164 3
        have hcz30_4 : w27.cell? ⟨gb164, 4, none⟩ = some (.slice A1_4 l1_4.length c1_4) := bc BK164 4
        have hfz30_0 := blk_frozen BK164.out 0
        have hfz30_1 := blk_frozen BK164.out 1
        have hfz30_2 := blk_frozen BK164.out 2
        have hfz30_3 := blk_frozen BK164.out 3
        have hfz30_4 := blk_frozen BK164.out 4
        have hc15b0_ : 0 ≤ (ji14) := of_decide_eq_true c15b0
        have hc18b0_ : 0 ≤ (ji17) := of_decide_eq_true c18b0
        obtain ⟨jh14, hjh14⟩ : ∃ j_ : Int, (wrap64 ((wrap64 ((ji14) + a2_2)) - a2_0)) = j_ := ⟨_, rfl⟩
        obtain ⟨jh17, hjh17⟩ : ∃ j_ : Int, (wrap64 ((wrap64 ((ji17) + a2_2)) - a2_0)) = j_ := ⟨_, rfl⟩
        have hc16_ := of_decide_eq_true c16b0
        have hc19_ := of_decide_eq_true c19b0
        rw [hjh14] at hc16_
        rw [hjh17] at hc19_
        have hjh14w : (IntKind.i64.wrap ((wrap64 ((ji14) + a2_2)) - a2_0)) = jh14 := (i64_w _).trans hjh14
        have hjh17w : (IntKind.i64.wrap ((wrap64 ((ji17) + a2_2)) - a2_0)) = jh17 := (i64_w _).trans hjh17
        obtain ⟨i030, hi030, _, hsz30, _⟩ := info_parts info3
        obtain ⟨A30, hcut30, hA30, hC30⟩ := print_mid_of (P := Try.prog) (Value.int .i64) 0 24 3 .i64 .i64 Try.underlying24 hi030 hsz30 A1_4 c1_4 l1_4 ji14 jh14 hc15b0_ hc16_.1 hc16_.2 HC1_4.out
        obtain ⟨Ax_, cx_, ex_, hcx_, _⟩ := Kd.R_reads HO_164004.out
        injection ex_ with ex1_ ex2_ ex3_
        subst ex3_
        clear ex1_ ex2_
        obtain ⟨D31, hD31, hcut31⟩ := cut_own (P := Try.prog) 24 3 Try.underlying24 hi030 hsz30 Ao4 x164004_1.length co4 ji17 jh17 hc18b0_ hc19_.1 hc19_.2 hcx_
        try go_wp2
        replace HO_164004 := Aside0.mk (Kd.R_drew HO_164004.out)
        replace BK163 := Aside0.mk (blk_drew BK163.out)
        replace BK164 := Aside0.mk (blk_drew BK164.out)
        replace BK165 := Aside0.mk (blk_drew BK165.out)
        replace HK := Aside0.mk (Kept.drew HK.out)
        replace HB := Aside0.mk (below_drew1 HB.out)
        refine start_ (n := 23) (S := fun w' => ce w' gb163 4 (.slice Ao4 x164004_1.length co4) ∧ ce w' gb164 4 (.slice A1_4 l1_4.length c1_4) ∧ ce w' gb165 0 (.int .i64 a2_0) ∧ ce w' gb165 2 (.int .i64 a2_2)) (ds := []) (MK [0, 23]) (by kernel_rfl) rfl rfl ⟨bc BK163 4, bc BK164 4, bc BK165 0, bc BK165 2⟩ (fun hHeld => ?_); refine with_tabW plane_part.tab6 plane_part.bits6 (fun HT_ HW_ => ?_)
        generalize w27.drew = w40 at HO_164004 BK163 BK164 BK165 HK HB hHeld ⊢
        refine puX 0 47 (MK [1, 22]) HT_.out ?_
        refine taX 1 48 (MK [2, 21]) HT_.out HW_.out hHeld ?_
        refine puX 2 49 (MK [3, 20]) HT_.out ?_
        refine puX 3 50 (MK [4, 19]) HT_.out ?_
        refine puX 4 51 (MK [5, 18]) HT_.out ?_
        refine taX 5 52 (MK [6, 17]) HT_.out HW_.out hHeld ?_
        refine puX 6 53 (MK [7, 16]) HT_.out ?_
        refine puX 7 54 (MK [8, 15]) HT_.out ?_
        refine taX 8 55 (MK [9, 14]) HT_.out HW_.out hHeld ?_
        refine puX 9 56 (MK [10, 13]) HT_.out ?_
        refine puX 10 57 (MK [11, 12]) HT_.out ?_
        refine puX 11 58 (MK [12, 11]) HT_.out ?_
        refine taX 12 59 (MK [13, 10]) HT_.out HW_.out hHeld ?_
        refine puX 13 60 (MK [14, 9]) HT_.out ?_
        refine puX 14 61 (MK [15, 8]) HT_.out ?_
        refine puX 15 62 (MK [16, 7]) HT_.out ?_
        refine taX 16 63 (MK [17, 6]) HT_.out HW_.out hHeld ?_
        refine puX 17 64 (MK [18, 5]) HT_.out ?_
        refine puX 18 65 (MK [19, 4]) HT_.out ?_
        refine taX 19 66 (MK [20, 3]) HT_.out HW_.out hHeld ?_
        refine puX 20 67 (MK [21, 2]) HT_.out ?_
        refine puX 21 68 (MK [22, 1]) HT_.out ?_
        refine onX 22 69 (MK [23]) HT_.out (fun K hK => ?_)
        refine step_copyR (P := Try.prog) (n := x164004_1.length) (ys := List.drop ji14.toNat (List.take jh14.toNat l1_4)) rfl (.tmp 57) (.tmp 68) 24 24 rfl Try.underlying24 (by kernel_rfl) HO_164004.out ji17.toNat (jh17.toNat - ji17.toNat) _ hD31 (by omega) (Kd.C_of_reads (h1 := fun _ => rfl) (hA30 _ (Kd.reads_of_C (Kd.C_kept_now HR1_4.out HK.out)))) rfl (by first | rfl | (rw [List.length_drop]; rfl) | (rw [List.length_drop, List.length_take, Nat.min_comm]; rfl) | ((have e_ : (List.drop ji14.toNat (List.take jh14.toNat l1_4)).length = jh14.toNat - ji14.toNat := by rw [List.length_drop, List.length_take]; omega); rw [e_]; rfl)) ?_
        intro w41 hr hg
        have hy_ : splice x164004_1 ji17.toNat (List.take (jh17.toNat - ji17.toNat) (List.drop ji14.toNat (List.take jh14.toNat l1_4))) = y169 := by rw [Ny169.out, hjh14, hjh17]
        rw [hy_] at hr
        have n0_ := Aside0.mk hr
        have n1_ := Aside0.mk (blk_grown BK163.out hg (Kd.R_ne HO_164004.out BK163.out (by decide)))
        have n2_ := Aside0.mk (blk_grown BK164.out hg (Kd.R_ne HO_164004.out BK164.out (by decide)))
        have n3_ := Aside0.mk (blk_grown BK165.out hg (Kd.R_ne HO_164004.out BK165.out (by decide)))
        have n4_ := Aside0.mk (HB.out.grown hg HB.out.size (own_base (Kd.own_of_R HO_164004.out)))
        have n5_ := Aside0.mk (Kept.of_grown (S := (fun k_ => P0_4_ k_)) hg HK.out (fun k_ e_ => (HO_164004.out.1 k_ e_)))
        clear HO_164004 BK163 BK164 BK165 HB HK
        have HO_164004 := n0_
        have BK163 := n1_
        have BK164 := n2_
        have BK165 := n3_
        have HB := n4_
        have HK := n5_
        clear n0_ n1_ n2_ n3_ n4_ n5_ hr hg hy_
        refine hK.out _ _ ⟨bc BK163 4, bc BK164 4, bc BK165 0, bc BK165 2⟩ (fun hHeld => ?_)
        clear hK K
        refine noX ?_
        refine done_ (done_of HT_.out (by kernel_rfl)) ?_
        try go_wp2
        (try simp only [← hl164004_1])
        go_roundg k1
        case measure => have := HK1.out; omega
        case rel => exact ⟨(wrap64 (x6_1 + 1)), (y169), (by first | rfl | (simp; done) | (simp [*]; done)), H', ⟨by have := HK1.out; omega⟩, ⟨by (try simp only [hl164004_1]); (with_reducible repeat (first | apply Kd.R_alloc | apply Kd.R_drewN | apply Kd.R_drew)); exact HO_164004.out⟩, ⟨by (try simp only [hl164004_1]); (with_reducible repeat (first | refine blk_drewN ?_ _ | refine blk_drew ?_ | refine blk_alloc ?_ _)); exact BK163.out⟩, ⟨by (try simp only [hl164004_1]); (with_reducible repeat (first | refine blk_drewN ?_ _ | refine blk_drew ?_ | refine blk_alloc ?_ _)); exact BK164.out⟩, ⟨by (try simp only [hl164004_1]); (with_reducible repeat (first | refine blk_drewN ?_ _ | refine blk_drew ?_ | refine blk_alloc ?_ _)); exact BK165.out⟩, ⟨by repeat (first | (with_reducible first | exact HK.out | apply Kept.alloc | apply Kept.drewN | apply Kept.drew | refine Kept.setCell ?_ (.inr GW163.out) _ | refine Kept.setCell ?_ (.inr GW164.out) _ | refine Kept.setCell ?_ (.inr GW165.out) _) | exact HK.out)⟩, ⟨by repeat (first | (with_reducible first | exact HB.out | apply below_alloc | apply pw_below_drewN | apply below_drew1 | refine below_set ?_ GE163.out | refine below_set ?_ GE164.out | refine below_set ?_ GE165.out) | exact HB.out)⟩⟩
       ·rw [if_neg c19] at H
        exact absurd H (by simp)
      ·rw [if_neg c18] at H
       exact absurd H (by simp)
     ·rw [if_neg c16] at H
      exact absurd H (by simp)
    ·rw [if_neg c15] at H
     exact absurd H (by simp)
   ·rw [if_neg c11] at H
    have c11b0 : decide (x6_1 < a2_3) = false := decide_eq_false c11
    clear c11
    obtain rfl := Option.some.inj H
    have hnb33 := NB165_163.out
    have hnc33 := NB163_165.out
    have hnb34 := NB165_164.out
    have hnc34 := NB164_165.out
    have hcz35_0 : wr.cell? ⟨gb165, 0, none⟩ = some (.int .i64 a2_0) := bc BK165 0
    have hcz35_1 : wr.cell? ⟨gb165, 1, none⟩ = some (.int .i64 a2_1) := bc BK165 1
    have hcz35_2 : wr.cell? ⟨gb165, 2, none⟩ = some (.int .i64 a2_2) := bc BK165 2
    have hcz35_3 : wr.cell? ⟨gb165, 3, none⟩ = some (.int .i64 a2_3) := bc BK165 3
    have hfz35_0 := blk_frozen BK165.out 0
    have hfz35_1 := blk_frozen BK165.out 1
    have hfz35_2 := blk_frozen BK165.out 2
    have hfz35_3 := blk_frozen BK165.out 3
    go_wp2
    first | go_end0 | ((try simp only [Exit.inBlock, Exit.then]); refine bodyPost_ret (results_none rfl _ _ _) rfl ?_)
    exact ⟨by first | rfl | (simp [errW_none, errW_some] <;> rfl) | (simp [*, errW_none, errW_some] <;> rfl), (by first | exact (upR HO_164004.out) | (simp only [hl164004_1]; exact (upR HO_164004.out))), by repeat (first | (with_reducible first | exact HB.out | apply below_alloc | apply pw_below_drewN | apply below_drew1 | refine below_set ?_ GE163.out | refine below_set ?_ GE164.out | refine below_set ?_ GE165.out) | exact HB.out), by repeat (first | (with_reducible first | exact HK.out | apply Kept.alloc | apply Kept.drewN | apply Kept.drew | refine Kept.setCell ?_ (.inr GW163.out) _ | refine Kept.setCell ?_ (.inr GW164.out) _ | refine Kept.setCell ?_ (.inr GW165.out) _) | exact HK.out)⟩

end Go.Proofs.Ythemchggmlpdhaa.Q
