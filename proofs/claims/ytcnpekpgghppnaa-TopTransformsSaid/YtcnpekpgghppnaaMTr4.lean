/- Texts of this session (words and printed walks, merged by wip/tools/merge.py) for the statement of the claim. -/
import Derived.Test.YtcnpekpgghppnaaMTr1
import Derived.Test.YtcnpekpgghppnaaMTr2
import Derived.Test.YtcnpekpgghppnaaMTr3
namespace Go.Proofs.Ytcnpekpgghppnaa.Q
open Go.RowKit Go.Proofs.YtcnpekpgghppnaaW.PrintWords Go.Proofs.YtcnpekpgghppnaaW.PrintLast Go.Proofs.YtcnpekpgghppnaaW.PrintMore
attribute [local go_sem] max2_int min2_int max_two min_two max_three min_three max_four min_four   -- for this text's walks alone
set_option linter.unusedVariables false
set_option linter.unusedSimpArgs false

/-! ### dwt_empty: function 60 -/
def dwt_empty.f (a0_0 : Int) (a0_1 : Int) (a0_2 : Int) (a0_3 : Int) : Option (Int × Int × Int × Int × List Int) := (rect_Area.f a0_0 a0_1 a0_2 a0_3).bind fun t154 => (if 0 ≤ t154 then (if (t154 : Int).toNat ≤ 35184372088832 then (some (a0_0, a0_1, a0_2, a0_3, (List.replicate (t154 : Int).toNat 0))) else (none)) else (none))
set_option maxHeartbeats 8000000 in
set_option maxRecDepth 100000 in
theorem dwt_empty.calls (a0_0 : Int) (a0_1 : Int) (a0_2 : Int) (a0_3 : Int) (r1 : Int) (r2 : Int) (r3 : Int) (r4 : Int) (r5 : List Int) (w : World) (h : dwt_empty.f a0_0 a0_1 a0_2 a0_3 = some (r1, r2, r3, r4, r5)) :
    Calls Try.prog 60 #[.agg #[.int .i64 a0_0, .int .i64 a0_1, .int .i64 a0_2, .int .i64 a0_3]] w fun e w' => ∃ v4_ : Value, e = .returned (.agg #[.int .i64 r1, .int .i64 r2, .int .i64 r3, .int .i64 r4, v4_]) ∧ Kd.R (Kd.int .i64) 3 w' w.heap.size (fun _ => True) v4_ r5 ∧ Below w.heap.size w w' := by
  have hu23 := Try.underlying23
  have hu26 := Try.underlying26
  have HB := Aside0.mk (Below.refl w.heap.size w)
  have H : ((rect_Area.f a0_0 a0_1 a0_2 a0_3).bind fun t154 => (if 0 ≤ t154 then (if (t154 : Int).toNat ≤ 35184372088832 then (some (a0_0, a0_1, a0_2, a0_3, (List.replicate (t154 : Int).toNat 0))) else (none)) else (none))) = some (r1, r2, r3, r4, r5) := h
  clear h
  replace H := Option.bind_eq_some_iff.mp H
  obtain ⟨t154, A20, H⟩ := H
  replace H : (if 0 ≤ t154 then (if (t154 : Int).toNat ≤ 35184372088832 then (some (a0_0, a0_1, a0_2, a0_3, (List.replicate (t154 : Int).toNat 0))) else (none)) else (none)) = some (r1, r2, r3, r4, r5) := H
  have A2 := Aside0.mk A20
  clear A20
  by_cases c3 : 0 ≤ t154
  · rw [if_pos c3] at H
    have c3b0 := eq_true c3
    have c3b1 : decide (0 ≤ t154) = true := decide_eq_true c3
    clear c3
    by_cases c4 : (t154 : Int).toNat ≤ 35184372088832
    · rw [if_pos c4] at H
      have c4b0 := eq_true c4
      have c4b1 : decide ((t154 : Int).toNat ≤ 35184372088832) = true := decide_eq_true c4
      clear c4
      obtain ⟨y155, hy155⟩ : ∃ y_ : List Int, y_ = (List.replicate (t154 : Int).toNat 0) := ⟨_, rfl⟩
      replace H : (some (a0_0, a0_1, a0_2, a0_3, y155)) = some (r1, r2, r3, r4, r5) := by first | (rw [hy155]; with_reducible exact H) | (have H2_ := (Option.bind_some _ _).symm.trans H; rw [hy155]; with_reducible exact H2_) | (have H2_ := (Option.bind_some _ _).symm.trans H; with_reducible exact H2_) | with_reducible exact H | (rw [hy155]; exact H) | exact H
      have Ny155 := Aside0.mk hy155
      clear hy155
      simp only [Option.some.injEq, Prod.mk.injEq] at H
      obtain ⟨rfl, rfl, rfl, rfl, rfl⟩ := H
      go_enter Try.func60, Try.ntmps60
      try go_wp2_with (first | ((with_reducible refine gate_dst (N := 1) rfl ?_); refine box_event ?hg (N := 1) ?hd (cs := #[.int .i64 a0_0, .int .i64 a0_1, .int .i64 a0_2, .int .i64 a0_3]) (t := 23) ?hr ?_; (case hd => rfl); (case hg => rfl); (case hr => first | (go_simp; done) | (go_simp; rfl)); intro gb152 hg w5 hbox hb; have n0_ := Aside0.mk (below_step (by repeat (first | (with_reducible first | exact HB.out | apply below_alloc | apply pw_below_drewN | apply below_drew1) | exact HB.out)) hb); have n1_ := Aside0.mk (hbox); have n2_ := Aside0.mk ((by rw [hg]; exact (below_size (by repeat (first | (with_reducible first | exact HB.out | apply below_alloc | apply pw_below_drewN | apply below_drew1) | exact HB.out))) : w.heap.size ≤ gb152)); have n3_ := Aside0.mk ((by rw [hg]; exact (below_size (by repeat (first | (with_reducible first | exact HB.out | apply below_alloc | apply pw_below_drewN | apply below_drew1) | exact HB.out))) : w.heap.size ≤ gb152)); clear HB; have HB := n0_; have BK152 := n1_; have GW152 := n2_; have GE152 := n3_; clear n0_ n1_ n2_ n3_; clear hb hbox hg) | ((with_reducible refine gate_dst (N := 2) rfl ?_); refine box_event ?hg (N := 2) ?hd (cs := #[.int .i64 0, .int .i64 0, .int .i64 0, .int .i64 0, .slice none 0 0]) (t := 26) ?hr ?_; (case hd => rfl); (case hg => rfl); (case hr => first | (go_simp; done) | (go_simp; rfl)); intro gb153 hg w6 hbox hb; have n0_ := Aside0.mk (blk_below (g := gb152) (o := .cells #[.int .i64 a0_0, .int .i64 a0_1, .int .i64 a0_2, .int .i64 a0_3] 23 (0, 0)) (by (with_reducible repeat (first | refine blk_drewN ?_ _ | refine blk_drew ?_ | refine blk_alloc ?_ _)); exact BK152.out) hb); have n1_ := Aside0.mk (below_step (by repeat (first | (with_reducible first | exact HB.out | apply below_alloc | apply pw_below_drewN | apply below_drew1 | refine below_set ?_ GE152.out) | exact HB.out)) hb); have n2_ := Aside0.mk (hbox); have n3_ := Aside0.mk ((by rw [hg]; exact (below_size (by repeat (first | (with_reducible first | exact HB.out | apply below_alloc | apply pw_below_drewN | apply below_drew1 | refine below_set ?_ GE152.out) | exact HB.out))) : w.heap.size ≤ gb153)); have n4_ := Aside0.mk ((by rw [hg]; exact (below_size (by repeat (first | (with_reducible first | exact HB.out | apply below_alloc | apply pw_below_drewN | apply below_drew1 | refine below_set ?_ GE152.out) | exact HB.out))) : w.heap.size ≤ gb153)); have n5_ := Aside0.mk ((by rw [hg]; exact Nat.ne_of_lt (blk_lt (g := gb152) (o := .cells #[.int .i64 a0_0, .int .i64 a0_1, .int .i64 a0_2, .int .i64 a0_3] 23 (0, 0)) (by (with_reducible repeat (first | refine blk_drewN ?_ _ | refine blk_drew ?_ | refine blk_alloc ?_ _)); exact BK152.out)) : gb152 ≠ gb153)); have n6_ := Aside0.mk ((by rw [hg]; exact Nat.ne_of_gt (blk_lt (g := gb152) (o := .cells #[.int .i64 a0_0, .int .i64 a0_1, .int .i64 a0_2, .int .i64 a0_3] 23 (0, 0)) (by (with_reducible repeat (first | refine blk_drewN ?_ _ | refine blk_drew ?_ | refine blk_alloc ?_ _)); exact BK152.out)) : gb153 ≠ gb152)); clear BK152; clear HB; have BK152 := n0_; have HB := n1_; have BK153 := n2_; have GW153 := n3_; have GE153 := n4_; have NB152_153 := n5_; have NB153_152 := n6_; clear n0_ n1_ n2_ n3_ n4_ n5_ n6_; clear hb hbox hg))
      have n0_ := Aside0.mk (blk_drew BK152.out)
      have n1_ := Aside0.mk (blk_drew BK153.out)
      have n2_ := Aside0.mk (below_drew1 HB.out)
      clear BK152
      clear BK153
      clear HB
      have BK152 := n0_
      have BK153 := n1_
      have HB := n2_
      clear n0_ n1_ n2_
      refine start_ (n := 6) (S := fun w' => w'.cell? ⟨gb152, 0, none⟩ = some (.int .i64 a0_0) ∧ w'.cell? ⟨gb152, 1, none⟩ = some (.int .i64 a0_1) ∧ w'.cell? ⟨gb152, 2, none⟩ = some (.int .i64 a0_2) ∧ w'.cell? ⟨gb152, 3, none⟩ = some (.int .i64 a0_3)) (ds := []) #[false, false, false, false, false, false] (by kernel_rfl) rfl rfl ⟨(blk_cell BK152.out 0).trans rfl, (blk_cell BK152.out 1).trans rfl, (blk_cell BK152.out 2).trans rfl, (blk_cell BK152.out 3).trans rfl⟩ (fun hHeld => ?_)
      generalize w6.drew = w7 at BK152 BK153 HB hHeld ⊢
      refine take_ (i := 0) (N := some 3) (v := ?_) (a' := ?_) #[true, false, false, false, false, false] rfl rfl (by kernel_rfl) (fun _ _ _ h => h) (Or.inl ⟨by rfl, ?_⟩) hHeld ?_ ?_
      rotate_left
      · rintro w' ⟨s0, s1, s2, s3⟩
        go_simp
        with_reducible rfl
      rotate_left
      · simp only [Act.put, List.setIfInBounds_toArray, List.set_cons_zero, List.set_cons_succ, i64_w, i32_w]
        rfl
      refine take_ (i := 1) (N := some 4) (v := ?_) (a' := ?_) #[true, true, false, false, false, false] rfl rfl (by kernel_rfl) (fun _ _ _ h => h) (Or.inl ⟨by rfl, ?_⟩) hHeld ?_ ?_
      rotate_left
      · rintro w' ⟨s0, s1, s2, s3⟩
        go_simp
        with_reducible rfl
      rotate_left
      · simp only [Act.put, List.setIfInBounds_toArray, List.set_cons_zero, List.set_cons_succ, i64_w, i32_w]
        rfl
      refine one_ (i := 2) (N := some 5) #[true, true, true, false, false, false] rfl rfl (by kernel_rfl) (by decide) (fun K hK => ?_)
      refine goes_ Try.func36 (by kernel_rfl) rfl #[.agg #[.int .i64 a0_0, .int .i64 a0_1, .int .i64 a0_2, .int .i64 a0_3]] (by rfl) rfl rfl (by (try simp only [List.map_toArray, List.map_cons, List.map_nil]); first | done | rfl | (simp only [List.length_drop, List.length_take]; rfl)) ?_
      with_reducible refine (rect_Area.calls a0_0 a0_1 a0_2 a0_3 t154 _ A2.out).mono ?_
      rintro e w8 ⟨rfl, hb⟩
      refine ⟨_, rfl, ?_⟩
      have n0_ := Aside0.mk (blk_below (g := gb152) (o := .cells #[.int .i64 a0_0, .int .i64 a0_1, .int .i64 a0_2, .int .i64 a0_3] 23 (0, 0)) (by (with_reducible repeat (first | refine blk_drewN ?_ _ | refine blk_drew ?_ | refine blk_alloc ?_ _)); exact BK152.out) hb)
      have n1_ := Aside0.mk (blk_below (g := gb153) (o := .cells #[.int .i64 0, .int .i64 0, .int .i64 0, .int .i64 0, .slice none 0 0] 26 (0, 0)) (by (with_reducible repeat (first | refine blk_drewN ?_ _ | refine blk_drew ?_ | refine blk_alloc ?_ _)); exact BK153.out) hb)
      have n2_ := Aside0.mk (below_step (by repeat (first | (with_reducible first | exact HB.out | apply below_alloc | apply pw_below_drewN | apply below_drew1 | refine below_set ?_ GE152.out | refine below_set ?_ GE153.out) | exact HB.out)) hb)
      clear BK152
      clear BK153
      clear HB
      have BK152 := n0_
      have BK153 := n1_
      have HB := n2_
      clear n0_ n1_ n2_
      (try clear hb)
      (try clear hb2)
      (try clear hk)
      (try clear hi)
      refine hK.out _ _ ⟨(blk_cell BK152.out 0).trans rfl, (blk_cell BK152.out 1).trans rfl, (blk_cell BK152.out 2).trans rfl, (blk_cell BK152.out 3).trans rfl⟩ (fun hHeld => ?_)
      clear hK K
      refine norm_ (a' := ?_) ?_ ?_
      rotate_left
      · show Act.put _ (some 5) _ = _
        simp only [Act.put, List.setIfInBounds_toArray, List.set_cons_zero, List.set_cons_succ, i64_w, i32_w]
        rfl
      refine one_ (i := 3) (N := some 6) #[true, true, true, true, false, false] rfl rfl (by kernel_rfl) (by decide) (fun K hK => ?_)
      refine Kd.R_make_step (Kd.int .i64) _ 3 (by rfl) (N := 6) rfl 24 _ _ rfl t154 rfl rfl Try.underlying24 (.int .i64 0) 8 info3 rfl (by decide) (by omega) 0 (ok := fun _ => True) (okp := fun _ => True) rfl (fun _ hk => hk) trivial (of_decide_eq_true (by first | (with_reducible assumption) | assumption)) (Nat.le_trans (Nat.mul_le_mul_right _ (of_decide_eq_true (by first | (with_reducible assumption) | assumption) : t154.toNat ≤ 35184372088832)) (by omega)) (Below.refl _ _) (Nat.le_refl _) ?_
      intro v156 w9 ho10 hb hg_ hnew_
      clear hg_ hnew_
      (first | rw [← Ny155.out] at ho10 | (simp only [Int.reduceToNat] at ho10; rw [← Ny155.out] at ho10))
      have n0_ := Aside0.mk (Kd.R_lower ho10 (below_size (by repeat (first | (with_reducible first | exact HB.out | apply below_alloc | apply pw_below_drewN | apply below_drew1 | refine below_set ?_ GE152.out | refine below_set ?_ GE153.out) | exact HB.out))))
      have n1_ := Aside0.mk (blk_below (g := gb152) (o := .cells #[.int .i64 a0_0, .int .i64 a0_1, .int .i64 a0_2, .int .i64 a0_3] 23 (0, 0)) (by (with_reducible repeat (first | refine blk_drewN ?_ _ | refine blk_drew ?_ | refine blk_alloc ?_ _)); exact BK152.out) hb)
      have n2_ := Aside0.mk (blk_below (g := gb153) (o := .cells #[.int .i64 0, .int .i64 0, .int .i64 0, .int .i64 0, .slice none 0 0] 26 (0, 0)) (by (with_reducible repeat (first | refine blk_drewN ?_ _ | refine blk_drew ?_ | refine blk_alloc ?_ _)); exact BK153.out) hb)
      have n3_ := Aside0.mk (below_step (by repeat (first | (with_reducible first | exact HB.out | apply below_alloc | apply pw_below_drewN | apply below_drew1 | refine below_set ?_ GE152.out | refine below_set ?_ GE153.out) | exact HB.out)) hb)
      clear BK152
      clear BK153
      clear HB
      have HO157 := n0_
      have BK152 := n1_
      have BK153 := n2_
      have HB := n3_
      clear n0_ n1_ n2_ n3_
      clear hb ho10
      obtain ⟨Ao11, co11, eo11⟩ := Kd.R_slice HO157.out
      (first | subst eo11 | (injection eo11 with f1_ f2_ f3_; have f4_ := f1_.symm; have f5_ := f3_.symm; clear f1_ f2_ f3_; subst f4_; subst f5_))
      refine hK.out _ _ ⟨(blk_cell BK152.out 0).trans rfl, (blk_cell BK152.out 1).trans rfl, (blk_cell BK152.out 2).trans rfl, (blk_cell BK152.out 3).trans rfl⟩ (fun hHeld => ?_)
      clear hK K
      refine norm_ (a' := ?_) ?_ ?_
      rotate_left
      · show Act.put _ (some 6) _ = _
        simp only [Act.put, List.setIfInBounds_toArray, List.set_cons_zero, List.set_cons_succ, i64_w, i32_w]
        rfl
      refine pure_ (i := 4) (N := some 7) (v := ?_) (a' := ?_) #[true, true, true, true, true, false] rfl rfl (by kernel_rfl) (fun _ _ _ h => h) (Or.inl ⟨by rfl, ?_⟩) ?_ ?_
      rotate_left
      · intro w'
        go_simp
        with_reducible rfl
      rotate_left
      · simp only [Act.put, List.setIfInBounds_toArray, List.set_cons_zero, List.set_cons_succ, i64_w, i32_w]
        rfl
      refine one_ (i := 5) (N := none) #[true, true, true, true, true, true] rfl rfl (by kernel_rfl) (by decide) (fun K hK => ?_)
      have hs12 : w9.cell? ⟨gb153, 0, none⟩ = some (.int .i64 0) := (blk_cell BK153.out 0).trans rfl
      have hfs12 := blk_frozen BK153.out 0
      have hns12_0 := NB152_153.out
      have hms12_0 := NB153_152.out
      have hs13 : w9.cell? ⟨gb153, 1, none⟩ = some (.int .i64 0) := (blk_cell BK153.out 1).trans rfl
      have hfs13 := blk_frozen BK153.out 1
      have hns13_0 := NB152_153.out
      have hms13_0 := NB153_152.out
      have hs14 : w9.cell? ⟨gb153, 2, none⟩ = some (.int .i64 0) := (blk_cell BK153.out 2).trans rfl
      have hfs14 := blk_frozen BK153.out 2
      have hns14_0 := NB152_153.out
      have hms14_0 := NB153_152.out
      have hs15 : w9.cell? ⟨gb153, 3, none⟩ = some (.int .i64 0) := (blk_cell BK153.out 3).trans rfl
      have hfs15 := blk_frozen BK153.out 3
      have hns15_0 := NB152_153.out
      have hms15_0 := NB153_152.out
      have hs16 : w9.cell? ⟨gb153, 4, none⟩ = some (.slice none 0 0) := (blk_cell BK153.out 4).trans rfl
      have hfs16 := blk_frozen BK153.out 4
      have hns16_0 := NB152_153.out
      have hms16_0 := NB153_152.out
      refine skip_ (w1 := ?_) (by rfl) rfl ?_ ?_
      rotate_left
      · go_simp
        rfl
      refine hK.out _ _ ⟨((cell_far (p := ⟨gb153, _, none⟩) NB152_153.out _).trans (((cell_far (p := ⟨gb153, _, none⟩) NB152_153.out _).trans (((cell_far (p := ⟨gb153, _, none⟩) NB152_153.out _).trans (((cell_far (p := ⟨gb153, _, none⟩) NB152_153.out _).trans (((cell_far (p := ⟨gb153, _, none⟩) NB152_153.out _).trans (hHeld.1)))))))))), ((cell_far (p := ⟨gb153, _, none⟩) NB152_153.out _).trans (((cell_far (p := ⟨gb153, _, none⟩) NB152_153.out _).trans (((cell_far (p := ⟨gb153, _, none⟩) NB152_153.out _).trans (((cell_far (p := ⟨gb153, _, none⟩) NB152_153.out _).trans (((cell_far (p := ⟨gb153, _, none⟩) NB152_153.out _).trans (hHeld.2.1)))))))))), ((cell_far (p := ⟨gb153, _, none⟩) NB152_153.out _).trans (((cell_far (p := ⟨gb153, _, none⟩) NB152_153.out _).trans (((cell_far (p := ⟨gb153, _, none⟩) NB152_153.out _).trans (((cell_far (p := ⟨gb153, _, none⟩) NB152_153.out _).trans (((cell_far (p := ⟨gb153, _, none⟩) NB152_153.out _).trans (hHeld.2.2.1)))))))))), ((cell_far (p := ⟨gb153, _, none⟩) NB152_153.out _).trans (((cell_far (p := ⟨gb153, _, none⟩) NB152_153.out _).trans (((cell_far (p := ⟨gb153, _, none⟩) NB152_153.out _).trans (((cell_far (p := ⟨gb153, _, none⟩) NB152_153.out _).trans (((cell_far (p := ⟨gb153, _, none⟩) NB152_153.out _).trans (hHeld.2.2.2))))))))))⟩ (fun hHeld => ?_)
      clear hK K
      refine done_ (by kernel_rfl) ?_
      try go_wp2
      refine bodyPost_ret (results_cell_row rfl _ _ gb153 26 #[.int .i64 a0_0, .int .i64 a0_1, .int .i64 a0_2, .int .i64 a0_3, .slice Ao11 y155.length co11] (0, 0) _ rfl (by (with_reducible repeat (first | refine blk_drewN ?_ _ | refine blk_drew ?_ | refine blk_alloc ?_ _)); refine blk_put (cs := #[.int .i64 a0_0, .int .i64 a0_1, .int .i64 a0_2, .int .i64 a0_3, .slice none 0 0]) ?_ 4 _ rfl; (with_reducible repeat (first | refine blk_drewN ?_ _ | refine blk_drew ?_ | refine blk_alloc ?_ _)); refine blk_put (cs := #[.int .i64 a0_0, .int .i64 a0_1, .int .i64 a0_2, .int .i64 0, .slice none 0 0]) ?_ 3 _ rfl; (with_reducible repeat (first | refine blk_drewN ?_ _ | refine blk_drew ?_ | refine blk_alloc ?_ _)); refine blk_put (cs := #[.int .i64 a0_0, .int .i64 a0_1, .int .i64 0, .int .i64 0, .slice none 0 0]) ?_ 2 _ rfl; (with_reducible repeat (first | refine blk_drewN ?_ _ | refine blk_drew ?_ | refine blk_alloc ?_ _)); refine blk_put (cs := #[.int .i64 a0_0, .int .i64 0, .int .i64 0, .int .i64 0, .slice none 0 0]) ?_ 1 _ rfl; (with_reducible repeat (first | refine blk_drewN ?_ _ | refine blk_drew ?_ | refine blk_alloc ?_ _)); refine blk_put (cs := #[.int .i64 0, .int .i64 0, .int .i64 0, .int .i64 0, .slice none 0 0]) ?_ 0 _ rfl; (with_reducible repeat (first | refine blk_drewN ?_ _ | refine blk_drew ?_ | refine blk_alloc ?_ _)); exact BK153.out) Try.underlying26 rfl (by kernel_rfl)) rfl ?_
      exact ⟨_, by first | rfl | (simp [errW_none, errW_some] <;> rfl) | (simp [*, errW_none, errW_some] <;> rfl), by (with_reducible repeat (first | apply Kd.R_alloc | apply Kd.R_drewN | apply Kd.R_drew)); exact Kd.R_mono (Kd.R_far (p := ⟨gb153, 4, none⟩) (Kd.R_far (p := ⟨gb153, 3, none⟩) (Kd.R_far (p := ⟨gb153, 2, none⟩) (Kd.R_far (p := ⟨gb153, 1, none⟩) (Kd.R_far (p := ⟨gb153, 0, none⟩) (Kd.R_types HO157.out BK153.out (by decide)) (fun _ hk => hk.2) (.int .i64 a0_0)) (fun _ hk => hk.2) (.int .i64 a0_1)) (fun _ hk => hk.2) (.int .i64 a0_2)) (fun _ hk => hk.2) (.int .i64 a0_3)) (fun _ hk => hk.2) (.slice Ao11 y155.length co11)) (fun _ hk => trivial), by repeat (first | (with_reducible first | exact HB.out | apply below_alloc | apply pw_below_drewN | apply below_drew1 | refine below_set ?_ GE152.out | refine below_set ?_ GE153.out) | exact HB.out)⟩
    · rw [if_neg c4] at H
      exact absurd H (by simp)
  · rw [if_neg c3] at H
    exact absurd H (by simp)

end Go.Proofs.Ytcnpekpgghppnaa.Q

/- dwt.Split. Printed by wip/tools of this session. -/
namespace Go.Proofs.Ytcnpekpgghppnaa.Q
open Go.RowKit Go.Proofs.YtcnpekpgghppnaaW.PrintWords Go.Proofs.YtcnpekpgghppnaaW.PrintLast Go.Proofs.YtcnpekpgghppnaaW.PrintMore
set_option linter.unusedVariables false
set_option linter.unusedSimpArgs false

theorem run_store_slice {W : World} {g i t : Nat} {old : Array Value} {A : Option Addr} {n c : Nat} (hb : W.heap[g]? = some (.cells old t (0, 0))) (hi : i < old.size) : (Instr.storeAt 24 (.pointer (some ⟨g, i, none⟩)) (.slice A n c)).run Try.prog W = .ok () (W.setCell ⟨g, i, none⟩ (.slice A n c)) := by
  have hc : W.cell? ⟨g, i, none⟩ = some old[i] := by rw [blk_cell hb i, Array.getElem?_eq_getElem hi]
  have hf : W.frozen? ⟨g, i, none⟩ = false := blk_frozen hb i
  have hu := Try.underlying24
  go_simp
section
variable {ops : Array Oper} {rest : List Oper} {o : Oper} {a : Act} {Q : Exit → Act → World → Prop} {W : World} {g t i : Nat} {old : Array Value}
theorem store_slice_ev {A : Option Addr} {n c : Nat} (hgd : o.guard = none) (hN : o.dst = none) (x y : Operand) (ho : o.op = .store 24 x y) (hx : a.eval x = .pointer (some ⟨g, i, none⟩)) (hy : a.eval y = .slice A n c) (hb : W.heap[g]? = some (.cells old t (0, 0))) (hi : i < old.size) {new : Array Value} (hn : old.setIfInBounds i (.slice A n c) = new)
    (h : ∀ W', Stored W g t new W' → wpList Try.prog ops Q rest a W') : wpList Try.prog ops Q (o :: rest) a W :=
  wpList_plain hgd fun K hK => by
    unfold Oper.wp execOp
    simp only [ho, hx, hy, Sem.run_bind, run_store_slice hb hi, Result.andThen_ok, Sem.run_pure]
    show K (a.put o.dst undef) _
    rw [hN]
    exact hK _ _ (h _ (stored_mid (cs := #[.slice A n c]) hb hn))
end
/-- What the rows of a plane come to, from the y-th on. -/
def rowsF (kk : Int) (k : Nat) (x0 x1 y0 y1 : Int) (D : List Int) : Nat → Int → List Int → List Int → Option (List Int × List Int)
  | 0, _, _, _ => none
  | f + 1, y, P, Q => if y < y1 then (if lift_bounded.f k (List.take (x1 - x0).toNat (List.drop ((y - y0) * (x1 - x0)).toNat D)) 281474976710656 = some true ∧ (List.take (x1 - x0).toNat (List.drop ((y - y0) * (x1 - x0)).toNat D)).length ≤ 4096 then (fwdF kk k x0 (List.take (x1 - x0).toNat (List.drop ((y - y0) * (x1 - x0)).toNat D))).bind fun p => if P.length + p.1.length ≤ 2097152 ∧ Q.length + p.2.length ≤ 2097152 then rowsF kk k x0 x1 y0 y1 D f (y + 1) (P ++ p.1) (Q ++ p.2) else none else none) else some (P, Q)
set_option maxHeartbeats 8000000 in
set_option maxRecDepth 100000 in
theorem dwt_Split.good (k ks kn ke : Nat) (kk x0 y0 x1 y1 : Int) (A : Option Addr) (c : Nat) (D H0 H1 Z0 Z1 Z2 Z3 G0 G1 G2 G3 : List Int) (a0 a1 c0 c1 e0 e1 f0 f1 : Int) (w : World)
    (hr : Kd.C (Kd.int .i64) w A D.length D) (hc : D.length ≤ c) (hv : PV x0 y0 x1 y1 D) (hkk : 1 ≤ kk ∧ kk ≤ 3) (hkn : dwt_known.f kn kk = some true) (hex : dwt_exceeds.f ke D 35184372088832 = some false) (hbc : bandsC x0 y0 x1 y1 4 = #[.int .i64 a0, .int .i64 e0, .int .i64 c0, .int .i64 f0, .int .i64 a1, .int .i64 e0, .int .i64 c1, .int .i64 f0, .int .i64 a0, .int .i64 e1, .int .i64 c0, .int .i64 f1, .int .i64 a1, .int .i64 e1, .int .i64 c1, .int .i64 f1]) (hrows : rowsF kk ks x0 x1 y0 y1 D k y0 [] [] = some (H0, H1)) (hv0 : PV a0 y0 c0 y1 H0) (hv1 : PV a1 y0 c1 y1 H1) (he0 : dwt_empty.f  a0  e0  c0  f0 = some ( a0,  e0,  c0,  f0, Z0)) (he1 : dwt_empty.f  a1  e0  c1  f0 = some ( a1,  e0,  c1,  f0, Z1)) (he2 : dwt_empty.f  a0  e1  c0  f1 = some ( a0,  e1,  c0,  f1, Z2)) (he3 : dwt_empty.f  a1  e1  c1  f1 = some ( a1,  e1,  c1,  f1, Z3)) (hs0 : colsF kk ks a0 c0 y0 H0 k a0 Z0 Z2 = some (G0, G2)) (hs1 : colsF kk ks a1 c1 y0 H1 k a1 Z1 Z3 = some (G1, G3)) :
    Calls Try.prog 30 #[.agg #[.int .i64 x0, .int .i64 y0, .int .i64 x1, .int .i64 y1, .slice A D.length c], .int .i64 kk] w fun e w' => ∃ v0 v1 v2 v3 : Value, e = .returned (.tuple #[.agg #[.int .i64 a0, .int .i64 e0, .int .i64 c0, .int .i64 f0, v0, .int .i64 a1, .int .i64 e0, .int .i64 c1, .int .i64 f0, v1, .int .i64 a0, .int .i64 e1, .int .i64 c0, .int .i64 f1, v2, .int .i64 a1, .int .i64 e1, .int .i64 c1, .int .i64 f1, v3], .int .i64 0]) ∧ Hold w.heap.size w w' [] [(v0, G0), (v1, G1), (v2, G2), (v3, G3)] := by
  have HR := Aside0.mk hr
  have HC := Aside0.mk hc
  have HV := Aside0.mk hv
  have HKK := Aside0.mk hkk
  have HKN := Aside0.mk hkn
  have HEX := Aside0.mk hex
  have HBC := Aside0.mk hbc
  have HROW := Aside0.mk hrows
  have HV0 := Aside0.mk hv0
  have HV1 := Aside0.mk hv1
  have HE0 := Aside0.mk he0
  have HE1 := Aside0.mk he1
  have HE2 := Aside0.mk he2
  have HE3 := Aside0.mk he3
  have HS0 := Aside0.mk hs0
  have HS1 := Aside0.mk hs1
  have HVV := Aside0.mk hv.valid
  have HX01 := Aside0.mk hv.1
  have HY01 := Aside0.mk hv.2.1
  have HRV := Aside0.mk (show rect_Valid.f x0 y0 x1 y1 = some true from by have h := hv.valid; unfold plane_Valid.f at h; obtain ⟨t, ht, h⟩ := Option.bind_eq_some_iff.mp h; rw [ht]; cases t with | true => rfl | false => exact absurd h (by simp))
  clear hr hc hv hkk hkn hex hbc hrows hv0 hv1 he0 he1 he2 he3 hs0 hs1
  have K00 := Aside0.mk (Hold.nil w)
  go_enter Try.func30, Try.ntmps30
  go_wp2_with (first
    | ((with_reducible refine gate_dst (N := 2) rfl ?_); refine box_event ?hg (N := 2) ?hd (cs := #[.int .i64 x0, .int .i64 y0, .int .i64 x1, .int .i64 y1, .slice A D.length c]) (t := 26) ?hr ?_; (case hd => rfl); (case hg => rfl); (case hr => first | (go_simp; done) | (go_simp; rfl)); intro g2 hg W2 hbox hb; have K2 := Aside0.mk (K00.out.box (Nat.le_refl _) hg hbox hb trivial); clear hg hbox hb K00)
    | ((with_reducible refine gate_dst (N := 3) rfl ?_); refine box_event ?hg (N := 3) ?hd (cs := #[.int .i64 kk]) (t := 28) ?hr ?_; (case hd => rfl); (case hg => rfl); (case hr => first | (go_simp; done) | (go_simp; rfl)); intro g3 hg W3 hbox hb; have K3 := Aside0.mk (K2.out.box (below_size K2.out.below) hg hbox hb trivial); clear hg hbox hb K2)
    | ((with_reducible refine gate_dst (N := 4) rfl ?_); refine box_event ?hg (N := 4) ?hd (cs := #[.int .i64 0, .int .i64 0, .int .i64 0, .int .i64 0, .slice none 0 0, .int .i64 0, .int .i64 0, .int .i64 0, .int .i64 0, .slice none 0 0, .int .i64 0, .int .i64 0, .int .i64 0, .int .i64 0, .slice none 0 0, .int .i64 0, .int .i64 0, .int .i64 0, .int .i64 0, .slice none 0 0]) (t := 59) ?hr ?_; (case hd => rfl); (case hg => rfl); (case hr => first | (go_simp; done) | (go_simp; rfl)); intro g4 hg W4 hbox hb; have K4 := Aside0.mk (K3.out.box (below_size K3.out.below) hg hbox hb trivial); clear hg hbox hb K3)
    | ((with_reducible refine gate_dst (N := 6) rfl ?_); refine box_event ?hg (N := 6) ?hd (cs := #[.int .i64 0, .int .i64 0, .int .i64 0, .int .i64 0, .slice none 0 0, .int .i64 0, .int .i64 0, .int .i64 0, .int .i64 0, .slice none 0 0, .int .i64 0, .int .i64 0, .int .i64 0, .int .i64 0, .slice none 0 0, .int .i64 0, .int .i64 0, .int .i64 0, .int .i64 0, .slice none 0 0]) (t := 59) ?hr ?_; (case hd => rfl); (case hg => rfl); (case hr => first | (go_simp; done) | (go_simp; rfl)); intro g6 hg W6 hbox hb; have K := Aside0.mk (K4.out.box (below_size K4.out.below) hg hbox hb trivial); clear hg hbox hb K4)
    | ((with_reducible refine gate_dst (N := 21) rfl ?_); refine load_ev rfl 26 (.tmp 2) rfl rfl (K.out.get 3 rfl) Try.underlying26 rfl ?_)
    | (go_at_call 25; (with_reducible refine (plane_Valid.calls x0 y0 x1 y1 A c D true _ (Kd.C_below HR.out K.out.below) HC.out HVV.out).mono ?_); rintro _ w25 ⟨rfl, b⟩; have K' := Aside0.mk (K.out.call (below_size K.out.below) b); clear K; have K := K'; clear K'; clear b; have p3 : w25.cell? ⟨g3, 0, none⟩ = some (.int .i64 kk) := K.out.cell 2 rfl 0 rfl)
    | (go_at_call 56; (with_reducible refine (dwt_known.calls kn kk true _ HKN.out).mono ?_); rintro _ w56 ⟨rfl, b⟩; have K' := Aside0.mk (K.out.call (below_size K.out.below) b.below); clear K; have K := K'; clear K'; clear b p3; have p3 : w56.cell? ⟨g2, 4, none⟩ = some (.slice A D.length c) := K.out.cell 3 rfl 4 rfl)
    | (go_at_call 57; (with_reducible refine (dwt_exceeds.calls ke A c D 35184372088832 false _ (Kd.C_below HR.out K.out.below) HC.out HEX.out).mono ?_); rintro _ w57 ⟨rfl, b⟩; have K' := Aside0.mk (K.out.call (below_size K.out.below) b.below); clear K; have K := K'; clear K'; clear b p3)
    | ((with_reducible refine gate_dst (N := 34) rfl ?_); refine load_mid_ev (cs := #[.int .i64 x0, .int .i64 y0, .int .i64 x1, .int .i64 y1]) rfl 23 (.tmp 33) rfl rfl (K.out.get 3 rfl) (fun j v hj => by rcases j with _ | _ | _ | _ | j <;> first | exact hj | (simp at hj)) Try.underlying23 rfl rfl ?_)
    | ((with_reducible refine gate_dst (N := 7) rfl ?_); refine box_event ?hg (N := 7) ?hd (cs := #[.int .i64 0, .int .i64 0, .int .i64 0, .int .i64 0]) (t := 23) ?hr ?_; (case hd => rfl); (case hg => rfl); (case hr => first | (go_simp; done) | (go_simp; rfl)); intro g7 hg W7 hbox hb; have K' := Aside0.mk (K.out.box (below_size K.out.below) hg hbox hb trivial); clear K; have K := K'; clear K'; clear hg hbox hb)
    | ((with_reducible refine gate_store (t := 23) (p := 7) (v := .tmp 34) rfl ?_); refine store_ev rfl rfl 23 (.tmp 7) (.tmp 34) rfl rfl rfl (K.out.get 0 rfl) rfl rfl (by first | (kernel_rfl) | (simp [Value.oneCell'])) ?_; intro W7s hs; have K' := Aside0.mk (K.out.stored 0 rfl hs); clear K; have K := K'; clear K'; clear hs)
    | ((with_reducible refine gate_dst (N := 35) rfl ?_); refine load_ev rfl 23 (.tmp 7) rfl rfl (K.out.get 0 rfl) Try.underlying23 rfl ?_)
    | (go_at_call 35; (with_reducible refine (dwt_Bands.good x0 y0 x1 y1 _ HRV.out).mono ?_); rintro _ w35 ⟨rfl, b⟩; rw [HBC.out]; have K' := Aside0.mk (K.out.call (below_size K.out.below) b); clear K; have K := K'; clear K'; clear b)
    | ((with_reducible refine gate_dst (N := 8) rfl ?_); refine box_event ?hg (N := 8) ?hd (cs := #[.int .i64 0, .int .i64 0, .int .i64 0, .int .i64 0, .int .i64 0, .int .i64 0, .int .i64 0, .int .i64 0, .int .i64 0, .int .i64 0, .int .i64 0, .int .i64 0, .int .i64 0, .int .i64 0, .int .i64 0, .int .i64 0]) (t := 62) ?hr ?_; (case hd => rfl); (case hg => rfl); (case hr => first | (go_simp; done) | (go_simp; rfl)); intro g8 hg W8 hbox hb; have K' := Aside0.mk (K.out.box (below_size K.out.below) hg hbox hb trivial); clear K; have K := K'; clear K'; clear hg hbox hb)
    | ((with_reducible refine gate_store (t := 62) (p := 8) (v := .tmp 36) rfl ?_); refine store_ev rfl rfl 62 (.tmp 8) (.tmp 36) rfl rfl rfl (K.out.get 0 rfl) rfl rfl (by first | (kernel_rfl) | (simp [Value.oneCell'])) ?_; intro W8s hs; have K' := Aside0.mk (K.out.stored 0 rfl hs); clear K; have K := K'; clear K'; clear hs)
    | ((with_reducible refine gate_dst (N := 9) rfl ?_); refine box_event ?hg (N := 9) ?hd (cs := #[.int .i64 0, .int .i64 0, .int .i64 0, .int .i64 0, .slice none 0 0, .int .i64 0, .int .i64 0, .int .i64 0, .int .i64 0, .slice none 0 0]) (t := 78) ?hr ?_; (case hd => rfl); (case hg => rfl); (case hr => first | (go_simp; done) | (go_simp; rfl)); intro g9 hg W9 hbox hb; have K' := Aside0.mk (K.out.box (below_size K.out.below) hg hbox hb trivial); clear K; have K := K'; clear K'; clear hg hbox hb))
  clear HRV HBC HVV HKN HEX
  go_loopg [37] 2 (fun kq v37 w' => ∃ n : Nat, v37 = .int .i64 (n : Int) ∧ n + kq = 2 ∧ Aside0 (Hold w.heap.size w w' [(g9, 78, (match n with | 0 => #[.int .i64 0, .int .i64 0, .int .i64 0, .int .i64 0, .slice none 0 0, .int .i64 0, .int .i64 0, .int .i64 0, .int .i64 0, .slice none 0 0] | 1 => #[.int .i64 a0, .int .i64 y0, .int .i64 c0, .int .i64 y1, .slice none 0 0, .int .i64 0, .int .i64 0, .int .i64 0, .int .i64 0, .slice none 0 0] | _ => #[.int .i64 a0, .int .i64 y0, .int .i64 c0, .int .i64 y1, .slice none 0 0, .int .i64 a1, .int .i64 y0, .int .i64 c1, .int .i64 y1, .slice none 0 0])), (g8, 62, #[.int .i64 a0, .int .i64 e0, .int .i64 c0, .int .i64 f0, .int .i64 a1, .int .i64 e0, .int .i64 c1, .int .i64 f0, .int .i64 a0, .int .i64 e1, .int .i64 c0, .int .i64 f1, .int .i64 a1, .int .i64 e1, .int .i64 c1, .int .i64 f1]), (g7, 23, #[.int .i64 x0, .int .i64 y0, .int .i64 x1, .int .i64 y1]), (g6, 59, #[.int .i64 0, .int .i64 0, .int .i64 0, .int .i64 0, .slice none 0 0, .int .i64 0, .int .i64 0, .int .i64 0, .int .i64 0, .slice none 0 0, .int .i64 0, .int .i64 0, .int .i64 0, .int .i64 0, .slice none 0 0, .int .i64 0, .int .i64 0, .int .i64 0, .int .i64 0, .slice none 0 0]), (g4, 59, #[.int .i64 0, .int .i64 0, .int .i64 0, .int .i64 0, .slice none 0 0, .int .i64 0, .int .i64 0, .int .i64 0, .int .i64 0, .slice none 0 0, .int .i64 0, .int .i64 0, .int .i64 0, .int .i64 0, .slice none 0 0, .int .i64 0, .int .i64 0, .int .i64 0, .int .i64 0, .slice none 0 0]), (g3, 28, #[.int .i64 kk]), (g2, 26, #[.int .i64 x0, .int .i64 y0, .int .i64 x1, .int .i64 y1, .slice A D.length c])] []))
  case atStart => exact ⟨0, rfl, rfl, K⟩
  case round =>
  clear K
  obtain ⟨n, rfl, hn, K⟩ := hrel
  have hn4 : n = 0 ∨ n = 1 ∨ n = 2 := by omega
  rcases hn4 with rfl | rfl | rfl
  · have HK := K.out
    clear K
    have K := Aside0.mk (show Hold w.heap.size w wr [(g9, 78, #[.int .i64 0, .int .i64 0, .int .i64 0, .int .i64 0, .slice none 0 0, .int .i64 0, .int .i64 0, .int .i64 0, .int .i64 0, .slice none 0 0]), (g8, 62, #[.int .i64 a0, .int .i64 e0, .int .i64 c0, .int .i64 f0, .int .i64 a1, .int .i64 e0, .int .i64 c1, .int .i64 f0, .int .i64 a0, .int .i64 e1, .int .i64 c0, .int .i64 f1, .int .i64 a1, .int .i64 e1, .int .i64 c1, .int .i64 f1]), (g7, 23, #[.int .i64 x0, .int .i64 y0, .int .i64 x1, .int .i64 y1]), (g6, 59, #[.int .i64 0, .int .i64 0, .int .i64 0, .int .i64 0, .slice none 0 0, .int .i64 0, .int .i64 0, .int .i64 0, .int .i64 0, .slice none 0 0, .int .i64 0, .int .i64 0, .int .i64 0, .int .i64 0, .slice none 0 0, .int .i64 0, .int .i64 0, .int .i64 0, .int .i64 0, .slice none 0 0]), (g4, 59, #[.int .i64 0, .int .i64 0, .int .i64 0, .int .i64 0, .slice none 0 0, .int .i64 0, .int .i64 0, .int .i64 0, .int .i64 0, .slice none 0 0, .int .i64 0, .int .i64 0, .int .i64 0, .int .i64 0, .slice none 0 0, .int .i64 0, .int .i64 0, .int .i64 0, .int .i64 0, .slice none 0 0]), (g3, 28, #[.int .i64 kk]), (g2, 26, #[.int .i64 x0, .int .i64 y0, .int .i64 x1, .int .i64 y1, .slice A D.length c])] [] from HK)
    clear HK
    have hb0 : decide (((0 : Nat) : Int) < 2) = true := rfl
    go_upto_region 14 with (fail)
    have K' := Aside0.mk (K.out.drew)
    clear K
    have K := K'
    clear K'
    refine start_ (n := 17) (S := fun w' => w'.cell? ⟨g8, 0, none⟩ = some (.int .i64 a0) ∧ w'.cell? ⟨g7, 1, none⟩ = some (.int .i64 y0) ∧ w'.cell? ⟨g8, 2, none⟩ = some (.int .i64 c0) ∧ w'.cell? ⟨g7, 3, none⟩ = some (.int .i64 y1)) (ds := [16]) #[false, false, false, false, false, false, false, false, false, false, false, false, false, false, false, false, false] (by kernel_rfl) rfl rfl ⟨K.out.cell 1 rfl 0 rfl, K.out.cell 2 rfl 1 rfl, K.out.cell 1 rfl 2 rfl, K.out.cell 2 rfl 3 rfl⟩ (fun hHeld0 => ?_)
    generalize hw2 : wr.drew = w2 at *
    clear hw2
    have hHeld := Aside0.mk hHeld0
    clear hHeld0
    refine pure_ (i := 0) (N := some 40) (v := ?_) (a' := ?_) #[true, false, false, false, false, false, false, false, false, false, false, false, false, false, false, false, false] rfl rfl (by kernel_rfl) (fun _ _ _ h => h) (Or.inl ⟨by rfl, ?_⟩) ?_ ?_
    rotate_left
    · intro w'
      go_simp
      with_reducible rfl
    rotate_left
    · simp only [Act.put, List.setIfInBounds_toArray, List.set_cons_zero, List.set_cons_succ, i64_w, i32_w]
      rfl
    refine pure_ (i := 1) (N := some 41) (v := ?_) (a' := ?_) #[true, true, false, false, false, false, false, false, false, false, false, false, false, false, false, false, false] rfl rfl (by kernel_rfl) (fun _ _ _ h => h) (Or.inl ⟨by rfl, ?_⟩) ?_ ?_
    rotate_left
    · intro w'
      go_simp
      with_reducible rfl
    rotate_left
    · simp only [Act.put, List.setIfInBounds_toArray, List.set_cons_zero, List.set_cons_succ, i64_w, i32_w]
      rfl
    refine pure_ (i := 2) (N := some 42) (v := ?_) (a' := ?_) #[true, true, true, false, false, false, false, false, false, false, false, false, false, false, false, false, false] rfl rfl (by kernel_rfl) (fun _ _ _ h => h) (Or.inl ⟨by rfl, ?_⟩) ?_ ?_
    rotate_left
    · intro w'
      go_simp
      with_reducible rfl
    rotate_left
    · simp only [Act.put, List.setIfInBounds_toArray, List.set_cons_zero, List.set_cons_succ, i64_w, i32_w]
      rfl
    refine pure_ (i := 3) (N := some 43) (v := ?_) (a' := ?_) #[true, true, true, true, false, false, false, false, false, false, false, false, false, false, false, false, false] rfl rfl (by kernel_rfl) (fun _ _ _ h => h) (Or.inl ⟨by rfl, ?_⟩) ?_ ?_
    rotate_left
    · intro w'
      go_simp
      with_reducible rfl
    rotate_left
    · simp only [Act.put, List.setIfInBounds_toArray, List.set_cons_zero, List.set_cons_succ, i64_w, i32_w]
      rfl
    refine take_ (i := 4) (N := some 44) (v := ?_) (a' := ?_) #[true, true, true, true, true, false, false, false, false, false, false, false, false, false, false, false, false] rfl rfl (by kernel_rfl) (fun _ _ _ h => h) (Or.inl ⟨by rfl, ?_⟩) hHeld.out ?_ ?_
    rotate_left
    · rintro w' ⟨s0, s1, s2, s3⟩
      go_simp
      with_reducible rfl
    rotate_left
    · simp only [Act.put, List.setIfInBounds_toArray, List.set_cons_zero, List.set_cons_succ, i64_w, i32_w]
      rfl
    refine pure_ (i := 5) (N := some 45) (v := ?_) (a' := ?_) #[true, true, true, true, true, true, false, false, false, false, false, false, false, false, false, false, false] rfl rfl (by kernel_rfl) (fun _ _ _ h => h) (Or.inl ⟨by rfl, ?_⟩) ?_ ?_
    rotate_left
    · intro w'
      go_simp
      with_reducible rfl
    rotate_left
    · simp only [Act.put, List.setIfInBounds_toArray, List.set_cons_zero, List.set_cons_succ, i64_w, i32_w]
      rfl
    refine take_ (i := 6) (N := some 46) (v := ?_) (a' := ?_) #[true, true, true, true, true, true, true, false, false, false, false, false, false, false, false, false, false] rfl rfl (by kernel_rfl) (fun _ _ _ h => h) (Or.inl ⟨by rfl, ?_⟩) hHeld.out ?_ ?_
    rotate_left
    · rintro w' ⟨s0, s1, s2, s3⟩
      go_simp
      with_reducible rfl
    rotate_left
    · simp only [Act.put, List.setIfInBounds_toArray, List.set_cons_zero, List.set_cons_succ, i64_w, i32_w]
      rfl
    refine pure_ (i := 7) (N := some 47) (v := ?_) (a' := ?_) #[true, true, true, true, true, true, true, true, false, false, false, false, false, false, false, false, false] rfl rfl (by kernel_rfl) (fun _ _ _ h => h) (Or.inl ⟨by rfl, ?_⟩) ?_ ?_
    rotate_left
    · intro w'
      go_simp
      with_reducible rfl
    rotate_left
    · simp only [Act.put, List.setIfInBounds_toArray, List.set_cons_zero, List.set_cons_succ, i64_w, i32_w]
      rfl
    refine pure_ (i := 8) (N := some 48) (v := ?_) (a' := ?_) #[true, true, true, true, true, true, true, true, true, false, false, false, false, false, false, false, false] rfl rfl (by kernel_rfl) (fun _ _ _ h => h) (Or.inl ⟨by rfl, ?_⟩) ?_ ?_
    rotate_left
    · intro w'
      go_simp
      with_reducible rfl
    rotate_left
    · simp only [Act.put, List.setIfInBounds_toArray, List.set_cons_zero, List.set_cons_succ, i64_w, i32_w]
      rfl
    refine pure_ (i := 9) (N := some 49) (v := ?_) (a' := ?_) #[true, true, true, true, true, true, true, true, true, true, false, false, false, false, false, false, false] rfl rfl (by kernel_rfl) (fun _ _ _ h => h) (Or.inl ⟨by rfl, ?_⟩) ?_ ?_
    rotate_left
    · intro w'
      go_simp
      with_reducible rfl
    rotate_left
    · simp only [Act.put, List.setIfInBounds_toArray, List.set_cons_zero, List.set_cons_succ, i64_w, i32_w]
      rfl
    refine take_ (i := 10) (N := some 50) (v := ?_) (a' := ?_) #[true, true, true, true, true, true, true, true, true, true, true, false, false, false, false, false, false] rfl rfl (by kernel_rfl) (fun _ _ _ h => h) (Or.inl ⟨by rfl, ?_⟩) hHeld.out ?_ ?_
    rotate_left
    · rintro w' ⟨s0, s1, s2, s3⟩
      go_simp
      with_reducible rfl
    rotate_left
    · simp only [Act.put, List.setIfInBounds_toArray, List.set_cons_zero, List.set_cons_succ, i64_w, i32_w]
      rfl
    refine pure_ (i := 11) (N := some 51) (v := ?_) (a' := ?_) #[true, true, true, true, true, true, true, true, true, true, true, true, false, false, false, false, false] rfl rfl (by kernel_rfl) (fun _ _ _ h => h) (Or.inl ⟨by rfl, ?_⟩) ?_ ?_
    rotate_left
    · intro w'
      go_simp
      with_reducible rfl
    rotate_left
    · simp only [Act.put, List.setIfInBounds_toArray, List.set_cons_zero, List.set_cons_succ, i64_w, i32_w]
      rfl
    refine take_ (i := 12) (N := some 52) (v := ?_) (a' := ?_) #[true, true, true, true, true, true, true, true, true, true, true, true, true, false, false, false, false] rfl rfl (by kernel_rfl) (fun _ _ _ h => h) (Or.inl ⟨by rfl, ?_⟩) hHeld.out ?_ ?_
    rotate_left
    · rintro w' ⟨s0, s1, s2, s3⟩
      go_simp
      with_reducible rfl
    rotate_left
    · simp only [Act.put, List.setIfInBounds_toArray, List.set_cons_zero, List.set_cons_succ, i64_w, i32_w]
      rfl
    refine pure_ (i := 13) (N := some 53) (v := ?_) (a' := ?_) #[true, true, true, true, true, true, true, true, true, true, true, true, true, true, false, false, false] rfl rfl (by kernel_rfl) (fun _ _ _ h => h) (Or.inl ⟨by rfl, ?_⟩) ?_ ?_
    rotate_left
    · intro w'
      go_simp
      with_reducible rfl
    rotate_left
    · simp only [Act.put, List.setIfInBounds_toArray, List.set_cons_zero, List.set_cons_succ, i64_w, i32_w]
      rfl
    refine pure_ (i := 14) (N := some 54) (v := ?_) (a' := ?_) #[true, true, true, true, true, true, true, true, true, true, true, true, true, true, true, false, false] rfl rfl (by kernel_rfl) (fun _ _ _ h => h) (Or.inl ⟨by rfl, ?_⟩) ?_ ?_
    rotate_left
    · intro w'
      go_simp
      with_reducible rfl
    rotate_left
    · simp only [Act.put, List.setIfInBounds_toArray, List.set_cons_zero, List.set_cons_succ, i64_w, i32_w]
      rfl
    refine pure_ (i := 15) (N := some 55) (v := ?_) (a' := ?_) #[true, true, true, true, true, true, true, true, true, true, true, true, true, true, true, true, false] rfl rfl (by kernel_rfl) (fun _ _ _ h => h) (Or.inl ⟨by rfl, ?_⟩) ?_ ?_
    rotate_left
    · intro w'
      go_simp
      with_reducible rfl
    rotate_left
    · simp only [Act.put, List.setIfInBounds_toArray, List.set_cons_zero, List.set_cons_succ, i64_w, i32_w]
      rfl
    refine last_ (i := 16) (N := none) #[true, true, true, true, true, true, true, true, true, true, true, true, true, true, true, true, true] rfl rfl (by kernel_rfl) (by decide) (fun KC hK => ?_)
    refine store_mid_step (cs := #[.int .i64 a0, .int .i64 y0, .int .i64 c0, .int .i64 y1, .slice none 0 0]) (by rfl) rfl 26 (.tmp 55) (.tmp 54) rfl rfl (by kernel_rfl) (K.out.get 0 rfl) (Nat.le_of_ble_eq_true rfl) rfl (by first | (kernel_rfl) | (simp [Value.oneCell'])) (new := #[.int .i64 a0, .int .i64 y0, .int .i64 c0, .int .i64 y1, .slice none 0 0, .int .i64 0, .int .i64 0, .int .i64 0, .int .i64 0, .slice none 0 0]) rfl ?_
    intro WS hs
    refine hK.out _ _ ?_
    clear hK KC
    refine done_ (by kernel_rfl) ?_
    have K' := Aside0.mk (K.out.stored 0 rfl hs)
    clear K
    have K := K'
    clear K'
    clear hs hHeld
    go_wp2
    go_roundg (1)
    case measure => omega
    case rel => exact ⟨1, rfl, by omega, ⟨K.out⟩⟩
  · have HK := K.out
    clear K
    have K := Aside0.mk (show Hold w.heap.size w wr [(g9, 78, #[.int .i64 a0, .int .i64 y0, .int .i64 c0, .int .i64 y1, .slice none 0 0, .int .i64 0, .int .i64 0, .int .i64 0, .int .i64 0, .slice none 0 0]), (g8, 62, #[.int .i64 a0, .int .i64 e0, .int .i64 c0, .int .i64 f0, .int .i64 a1, .int .i64 e0, .int .i64 c1, .int .i64 f0, .int .i64 a0, .int .i64 e1, .int .i64 c0, .int .i64 f1, .int .i64 a1, .int .i64 e1, .int .i64 c1, .int .i64 f1]), (g7, 23, #[.int .i64 x0, .int .i64 y0, .int .i64 x1, .int .i64 y1]), (g6, 59, #[.int .i64 0, .int .i64 0, .int .i64 0, .int .i64 0, .slice none 0 0, .int .i64 0, .int .i64 0, .int .i64 0, .int .i64 0, .slice none 0 0, .int .i64 0, .int .i64 0, .int .i64 0, .int .i64 0, .slice none 0 0, .int .i64 0, .int .i64 0, .int .i64 0, .int .i64 0, .slice none 0 0]), (g4, 59, #[.int .i64 0, .int .i64 0, .int .i64 0, .int .i64 0, .slice none 0 0, .int .i64 0, .int .i64 0, .int .i64 0, .int .i64 0, .slice none 0 0, .int .i64 0, .int .i64 0, .int .i64 0, .int .i64 0, .slice none 0 0, .int .i64 0, .int .i64 0, .int .i64 0, .int .i64 0, .slice none 0 0]), (g3, 28, #[.int .i64 kk]), (g2, 26, #[.int .i64 x0, .int .i64 y0, .int .i64 x1, .int .i64 y1, .slice A D.length c])] [] from HK)
    clear HK
    have hb0 : decide (((1 : Nat) : Int) < 2) = true := rfl
    go_upto_region 14 with (fail)
    have K' := Aside0.mk (K.out.drew)
    clear K
    have K := K'
    clear K'
    refine start_ (n := 17) (S := fun w' => w'.cell? ⟨g8, 4, none⟩ = some (.int .i64 a1) ∧ w'.cell? ⟨g7, 1, none⟩ = some (.int .i64 y0) ∧ w'.cell? ⟨g8, 6, none⟩ = some (.int .i64 c1) ∧ w'.cell? ⟨g7, 3, none⟩ = some (.int .i64 y1)) (ds := [16]) #[false, false, false, false, false, false, false, false, false, false, false, false, false, false, false, false, false] (by kernel_rfl) rfl rfl ⟨K.out.cell 1 rfl 4 rfl, K.out.cell 2 rfl 1 rfl, K.out.cell 1 rfl 6 rfl, K.out.cell 2 rfl 3 rfl⟩ (fun hHeld0 => ?_)
    generalize hw2 : wr.drew = w2 at *
    clear hw2
    have hHeld := Aside0.mk hHeld0
    clear hHeld0
    refine pure_ (i := 0) (N := some 40) (v := ?_) (a' := ?_) #[true, false, false, false, false, false, false, false, false, false, false, false, false, false, false, false, false] rfl rfl (by kernel_rfl) (fun _ _ _ h => h) (Or.inl ⟨by rfl, ?_⟩) ?_ ?_
    rotate_left
    · intro w'
      go_simp
      with_reducible rfl
    rotate_left
    · simp only [Act.put, List.setIfInBounds_toArray, List.set_cons_zero, List.set_cons_succ, i64_w, i32_w]
      rfl
    refine pure_ (i := 1) (N := some 41) (v := ?_) (a' := ?_) #[true, true, false, false, false, false, false, false, false, false, false, false, false, false, false, false, false] rfl rfl (by kernel_rfl) (fun _ _ _ h => h) (Or.inl ⟨by rfl, ?_⟩) ?_ ?_
    rotate_left
    · intro w'
      go_simp
      with_reducible rfl
    rotate_left
    · simp only [Act.put, List.setIfInBounds_toArray, List.set_cons_zero, List.set_cons_succ, i64_w, i32_w]
      rfl
    refine pure_ (i := 2) (N := some 42) (v := ?_) (a' := ?_) #[true, true, true, false, false, false, false, false, false, false, false, false, false, false, false, false, false] rfl rfl (by kernel_rfl) (fun _ _ _ h => h) (Or.inl ⟨by rfl, ?_⟩) ?_ ?_
    rotate_left
    · intro w'
      go_simp
      with_reducible rfl
    rotate_left
    · simp only [Act.put, List.setIfInBounds_toArray, List.set_cons_zero, List.set_cons_succ, i64_w, i32_w]
      rfl
    refine pure_ (i := 3) (N := some 43) (v := ?_) (a' := ?_) #[true, true, true, true, false, false, false, false, false, false, false, false, false, false, false, false, false] rfl rfl (by kernel_rfl) (fun _ _ _ h => h) (Or.inl ⟨by rfl, ?_⟩) ?_ ?_
    rotate_left
    · intro w'
      go_simp
      with_reducible rfl
    rotate_left
    · simp only [Act.put, List.setIfInBounds_toArray, List.set_cons_zero, List.set_cons_succ, i64_w, i32_w]
      rfl
    refine take_ (i := 4) (N := some 44) (v := ?_) (a' := ?_) #[true, true, true, true, true, false, false, false, false, false, false, false, false, false, false, false, false] rfl rfl (by kernel_rfl) (fun _ _ _ h => h) (Or.inl ⟨by rfl, ?_⟩) hHeld.out ?_ ?_
    rotate_left
    · rintro w' ⟨s0, s1, s2, s3⟩
      go_simp
      with_reducible rfl
    rotate_left
    · simp only [Act.put, List.setIfInBounds_toArray, List.set_cons_zero, List.set_cons_succ, i64_w, i32_w]
      rfl
    refine pure_ (i := 5) (N := some 45) (v := ?_) (a' := ?_) #[true, true, true, true, true, true, false, false, false, false, false, false, false, false, false, false, false] rfl rfl (by kernel_rfl) (fun _ _ _ h => h) (Or.inl ⟨by rfl, ?_⟩) ?_ ?_
    rotate_left
    · intro w'
      go_simp
      with_reducible rfl
    rotate_left
    · simp only [Act.put, List.setIfInBounds_toArray, List.set_cons_zero, List.set_cons_succ, i64_w, i32_w]
      rfl
    refine take_ (i := 6) (N := some 46) (v := ?_) (a' := ?_) #[true, true, true, true, true, true, true, false, false, false, false, false, false, false, false, false, false] rfl rfl (by kernel_rfl) (fun _ _ _ h => h) (Or.inl ⟨by rfl, ?_⟩) hHeld.out ?_ ?_
    rotate_left
    · rintro w' ⟨s0, s1, s2, s3⟩
      go_simp
      with_reducible rfl
    rotate_left
    · simp only [Act.put, List.setIfInBounds_toArray, List.set_cons_zero, List.set_cons_succ, i64_w, i32_w]
      rfl
    refine pure_ (i := 7) (N := some 47) (v := ?_) (a' := ?_) #[true, true, true, true, true, true, true, true, false, false, false, false, false, false, false, false, false] rfl rfl (by kernel_rfl) (fun _ _ _ h => h) (Or.inl ⟨by rfl, ?_⟩) ?_ ?_
    rotate_left
    · intro w'
      go_simp
      with_reducible rfl
    rotate_left
    · simp only [Act.put, List.setIfInBounds_toArray, List.set_cons_zero, List.set_cons_succ, i64_w, i32_w]
      rfl
    refine pure_ (i := 8) (N := some 48) (v := ?_) (a' := ?_) #[true, true, true, true, true, true, true, true, true, false, false, false, false, false, false, false, false] rfl rfl (by kernel_rfl) (fun _ _ _ h => h) (Or.inl ⟨by rfl, ?_⟩) ?_ ?_
    rotate_left
    · intro w'
      go_simp
      with_reducible rfl
    rotate_left
    · simp only [Act.put, List.setIfInBounds_toArray, List.set_cons_zero, List.set_cons_succ, i64_w, i32_w]
      rfl
    refine pure_ (i := 9) (N := some 49) (v := ?_) (a' := ?_) #[true, true, true, true, true, true, true, true, true, true, false, false, false, false, false, false, false] rfl rfl (by kernel_rfl) (fun _ _ _ h => h) (Or.inl ⟨by rfl, ?_⟩) ?_ ?_
    rotate_left
    · intro w'
      go_simp
      with_reducible rfl
    rotate_left
    · simp only [Act.put, List.setIfInBounds_toArray, List.set_cons_zero, List.set_cons_succ, i64_w, i32_w]
      rfl
    refine take_ (i := 10) (N := some 50) (v := ?_) (a' := ?_) #[true, true, true, true, true, true, true, true, true, true, true, false, false, false, false, false, false] rfl rfl (by kernel_rfl) (fun _ _ _ h => h) (Or.inl ⟨by rfl, ?_⟩) hHeld.out ?_ ?_
    rotate_left
    · rintro w' ⟨s0, s1, s2, s3⟩
      go_simp
      with_reducible rfl
    rotate_left
    · simp only [Act.put, List.setIfInBounds_toArray, List.set_cons_zero, List.set_cons_succ, i64_w, i32_w]
      rfl
    refine pure_ (i := 11) (N := some 51) (v := ?_) (a' := ?_) #[true, true, true, true, true, true, true, true, true, true, true, true, false, false, false, false, false] rfl rfl (by kernel_rfl) (fun _ _ _ h => h) (Or.inl ⟨by rfl, ?_⟩) ?_ ?_
    rotate_left
    · intro w'
      go_simp
      with_reducible rfl
    rotate_left
    · simp only [Act.put, List.setIfInBounds_toArray, List.set_cons_zero, List.set_cons_succ, i64_w, i32_w]
      rfl
    refine take_ (i := 12) (N := some 52) (v := ?_) (a' := ?_) #[true, true, true, true, true, true, true, true, true, true, true, true, true, false, false, false, false] rfl rfl (by kernel_rfl) (fun _ _ _ h => h) (Or.inl ⟨by rfl, ?_⟩) hHeld.out ?_ ?_
    rotate_left
    · rintro w' ⟨s0, s1, s2, s3⟩
      go_simp
      with_reducible rfl
    rotate_left
    · simp only [Act.put, List.setIfInBounds_toArray, List.set_cons_zero, List.set_cons_succ, i64_w, i32_w]
      rfl
    refine pure_ (i := 13) (N := some 53) (v := ?_) (a' := ?_) #[true, true, true, true, true, true, true, true, true, true, true, true, true, true, false, false, false] rfl rfl (by kernel_rfl) (fun _ _ _ h => h) (Or.inl ⟨by rfl, ?_⟩) ?_ ?_
    rotate_left
    · intro w'
      go_simp
      with_reducible rfl
    rotate_left
    · simp only [Act.put, List.setIfInBounds_toArray, List.set_cons_zero, List.set_cons_succ, i64_w, i32_w]
      rfl
    refine pure_ (i := 14) (N := some 54) (v := ?_) (a' := ?_) #[true, true, true, true, true, true, true, true, true, true, true, true, true, true, true, false, false] rfl rfl (by kernel_rfl) (fun _ _ _ h => h) (Or.inl ⟨by rfl, ?_⟩) ?_ ?_
    rotate_left
    · intro w'
      go_simp
      with_reducible rfl
    rotate_left
    · simp only [Act.put, List.setIfInBounds_toArray, List.set_cons_zero, List.set_cons_succ, i64_w, i32_w]
      rfl
    refine pure_ (i := 15) (N := some 55) (v := ?_) (a' := ?_) #[true, true, true, true, true, true, true, true, true, true, true, true, true, true, true, true, false] rfl rfl (by kernel_rfl) (fun _ _ _ h => h) (Or.inl ⟨by rfl, ?_⟩) ?_ ?_
    rotate_left
    · intro w'
      go_simp
      with_reducible rfl
    rotate_left
    · simp only [Act.put, List.setIfInBounds_toArray, List.set_cons_zero, List.set_cons_succ, i64_w, i32_w]
      rfl
    refine last_ (i := 16) (N := none) #[true, true, true, true, true, true, true, true, true, true, true, true, true, true, true, true, true] rfl rfl (by kernel_rfl) (by decide) (fun KC hK => ?_)
    refine store_mid_step (cs := #[.int .i64 a1, .int .i64 y0, .int .i64 c1, .int .i64 y1, .slice none 0 0]) (by rfl) rfl 26 (.tmp 55) (.tmp 54) rfl rfl (by kernel_rfl) (K.out.get 0 rfl) (Nat.le_of_ble_eq_true rfl) rfl (by first | (kernel_rfl) | (simp [Value.oneCell'])) (new := #[.int .i64 a0, .int .i64 y0, .int .i64 c0, .int .i64 y1, .slice none 0 0, .int .i64 a1, .int .i64 y0, .int .i64 c1, .int .i64 y1, .slice none 0 0]) rfl ?_
    intro WS hs
    refine hK.out _ _ ?_
    clear hK KC
    refine done_ (by kernel_rfl) ?_
    have K' := Aside0.mk (K.out.stored 0 rfl hs)
    clear K
    have K := K'
    clear K'
    clear hs hHeld
    go_wp2
    go_roundg (0)
    case measure => omega
    case rel => exact ⟨2, rfl, by omega, ⟨K.out⟩⟩
  · have HK := K.out
    clear K
    have K := Aside0.mk (((show Hold w.heap.size w wr [(g9, 78, #[.int .i64 a0, .int .i64 y0, .int .i64 c0, .int .i64 y1, .slice none 0 0, .int .i64 a1, .int .i64 y0, .int .i64 c1, .int .i64 y1, .slice none 0 0]), (g8, 62, #[.int .i64 a0, .int .i64 e0, .int .i64 c0, .int .i64 f0, .int .i64 a1, .int .i64 e0, .int .i64 c1, .int .i64 f0, .int .i64 a0, .int .i64 e1, .int .i64 c0, .int .i64 f1, .int .i64 a1, .int .i64 e1, .int .i64 c1, .int .i64 f1]), (g7, 23, #[.int .i64 x0, .int .i64 y0, .int .i64 x1, .int .i64 y1]), (g6, 59, #[.int .i64 0, .int .i64 0, .int .i64 0, .int .i64 0, .slice none 0 0, .int .i64 0, .int .i64 0, .int .i64 0, .int .i64 0, .slice none 0 0, .int .i64 0, .int .i64 0, .int .i64 0, .int .i64 0, .slice none 0 0, .int .i64 0, .int .i64 0, .int .i64 0, .int .i64 0, .slice none 0 0]), (g4, 59, #[.int .i64 0, .int .i64 0, .int .i64 0, .int .i64 0, .slice none 0 0, .int .i64 0, .int .i64 0, .int .i64 0, .int .i64 0, .slice none 0 0, .int .i64 0, .int .i64 0, .int .i64 0, .int .i64 0, .slice none 0 0, .int .i64 0, .int .i64 0, .int .i64 0, .int .i64 0, .slice none 0 0]), (g3, 28, #[.int .i64 kk]), (g2, 26, #[.int .i64 x0, .int .i64 y0, .int .i64 x1, .int .i64 y1, .slice A D.length c])] [] from HK).add (below_size HK.below) (Kd.R_nil _ _ _ _ (fun _ => True)) (Below.refl _ _)).add (below_size HK.below) (Kd.R_nil _ _ _ _ (fun _ => True)) (Below.refl _ _))
    clear HK
    have hb0 : decide (((2 : Nat) : Int) < 2) = false := rfl
    have p1 : wr.cell? ⟨g7, 1, none⟩ = some (.int .i64 y0) := K.out.cell 2 rfl 1 rfl
    go_wp2
    clear p1 hb0
    go_loopg [11] k (fun kq v11 w' => ∃ (y : Int) (P Q : List Int) (A0 A1 : Option Addr) (d0 d1 : Nat), v11 = .int .i64 y ∧ Aside0 (y0 ≤ y) ∧ Aside0 (rowsF kk ks x0 x1 y0 y1 D kq y P Q = some (H0, H1)) ∧ Aside0 (Hold w.heap.size w w' [(g9, 78, #[.int .i64 a0, .int .i64 y0, .int .i64 c0, .int .i64 y1, .slice A0 P.length d0, .int .i64 a1, .int .i64 y0, .int .i64 c1, .int .i64 y1, .slice A1 Q.length d1]), (g8, 62, #[.int .i64 a0, .int .i64 e0, .int .i64 c0, .int .i64 f0, .int .i64 a1, .int .i64 e0, .int .i64 c1, .int .i64 f0, .int .i64 a0, .int .i64 e1, .int .i64 c0, .int .i64 f1, .int .i64 a1, .int .i64 e1, .int .i64 c1, .int .i64 f1]), (g7, 23, #[.int .i64 x0, .int .i64 y0, .int .i64 x1, .int .i64 y1]), (g6, 59, #[.int .i64 0, .int .i64 0, .int .i64 0, .int .i64 0, .slice none 0 0, .int .i64 0, .int .i64 0, .int .i64 0, .int .i64 0, .slice none 0 0, .int .i64 0, .int .i64 0, .int .i64 0, .int .i64 0, .slice none 0 0, .int .i64 0, .int .i64 0, .int .i64 0, .int .i64 0, .slice none 0 0]), (g4, 59, #[.int .i64 0, .int .i64 0, .int .i64 0, .int .i64 0, .slice none 0 0, .int .i64 0, .int .i64 0, .int .i64 0, .int .i64 0, .slice none 0 0, .int .i64 0, .int .i64 0, .int .i64 0, .int .i64 0, .slice none 0 0, .int .i64 0, .int .i64 0, .int .i64 0, .int .i64 0, .slice none 0 0]), (g3, 28, #[.int .i64 kk]), (g2, 26, #[.int .i64 x0, .int .i64 y0, .int .i64 x1, .int .i64 y1, .slice A D.length c])] [(.slice A0 P.length d0, P), (.slice A1 Q.length d1, Q)]))
    case atStart => exact ⟨y0, [], [], none, none, 0, 0, rfl, ⟨Int.le_refl _⟩, HROW, K⟩
    case round =>
    clear K HROW
    obtain ⟨y, P, Q, A0, A1, d0, d1, rfl, HY0, HX, K⟩ := hrel
    cases gk with
    | zero => exact absurd HX.out (by simp [rowsF])
    | succ kq =>
    have hs := HX.out
    clear HX
    rw [rowsF.eq_2] at hs
    have p3 : wr.cell? ⟨g7, 3, none⟩ = some (.int .i64 y1) := K.out.cell 2 rfl 3 rfl
    by_cases hi : y < y1
    · rw [if_pos hi] at hs
      have hb0 : decide (y < y1) = true := decide_eq_true hi
      obtain ⟨row, hrw⟩ : ∃ row, row = List.take (x1 - x0).toNat (List.drop ((y - y0) * (x1 - x0)).toNat D) := ⟨_, rfl⟩
      rw [← hrw] at hs
      have HRW := Aside0.mk hrw
      clear hrw
      by_cases hbd : lift_bounded.f ks row 281474976710656 = some true ∧ row.length ≤ 4096
      rotate_left
      · rw [if_neg hbd] at hs
        cases hs
      rw [if_pos hbd] at hs
      obtain ⟨⟨lo, hi_⟩, hfw, hs⟩ := Option.bind_eq_some_iff.mp hs
      by_cases hlim : P.length + lo.length ≤ 2097152 ∧ Q.length + hi_.length ≤ 2097152
      rotate_left
      · rw [if_neg hlim] at hs
        cases hs
      rw [if_pos hlim] at hs
      obtain ⟨P2, hP2⟩ : ∃ P2, P2 = P ++ lo := ⟨_, rfl⟩
      obtain ⟨Q2, hQ2⟩ : ∃ Q2, Q2 = Q ++ hi_ := ⟨_, rfl⟩
      rw [← hP2, ← hQ2] at hs
      have HP2 := Aside0.mk hP2
      have HQ2 := Aside0.mk hQ2
      clear hP2 hQ2
      have HX := Aside0.mk hs
      have HBD := Aside0.mk hbd
      have HFW := Aside0.mk hfw
      have HLIM := Aside0.mk hlim
      have HYI := Aside0.mk (And.intro HY0.out hi)
      clear hs hbd hfw hlim hi HY0
      have hwy : wrap64 (y + 1) = y + 1 := by have := HYI.out; have := HY01.out; unfold wrap64; omega
      go_wp2_with (first
        | ((with_reducible refine gate_dst (N := 66) rfl ?_); refine load_ev rfl 26 (.tmp 2) rfl rfl (K.out.get 6 rfl) Try.underlying26 rfl ?_)
        | (go_at_call 58; (with_reducible refine (plane_Row.good x0 y0 x1 y1 A c D y _ (Kd.C_below HR.out K.out.below) HC.out HV.out HYI.out.1 HYI.out.2).mono ?_); rintro _ w9 ⟨vc, rfl, hR, b⟩; rw [← HRW.out] at hR; obtain ⟨Ac, cc, rfl⟩ := Kd.R_slice hR; have HC2 := Aside0.mk hR; have K' := Aside0.mk (K.out.call (below_size K.out.below) b); clear K; have K := K'; clear K'; clear b hR p3; have HM0 := Aside0.mk (fun k hk => Kd.R_lt (K.out.rowAt 0 rfl) k hk); have p0 : w9.cell? ⟨g7, 0, none⟩ = some (.int .i64 x0) := K.out.cell 2 rfl 0 rfl; have p2 : w9.cell? ⟨g3, 0, none⟩ = some (.int .i64 kk) := K.out.cell 5 rfl 0 rfl)
        | (go_at_call 59; (with_reducible refine (lift_Forward.good ks ks kk Ac cc row x0 lo hi_ _ (Kd.R_reads' HC2.out).2.2 (Kd.R_reads' HC2.out).2.1 HKK.out.1 HKK.out.2 HX01.out.1 (by have := HX01.out; omega) HBD.out.2 HBD.out.1 HFW.out).mono ?_); rintro _ wf ⟨u1, u2, rfl, hR1, hR2, b⟩; obtain ⟨Al, cl, rfl⟩ := Kd.R_slice hR1; obtain ⟨Ah, ch, rfl⟩ := Kd.R_slice hR2; have HL := Aside0.mk hR1; have HH2 := Aside0.mk hR2; have K' := Aside0.mk (K.out.call (below_size K.out.below) b); clear K; have K := K'; clear K'; clear b hR1 hR2 p0 p2; have p4 : wf.cell? ⟨g9, 4, none⟩ = some (.slice A0 P.length d0) := K.out.cell 0 rfl 4 rfl)
        | ((with_reducible refine gate_builtin (b := .append) (xs := #[.tmp 86, .tmp 87]) rfl ?_); at_builtin; refine Kd.R_append_rows (Kd.int .i64) (w0 := w) w.heap.size rfl (.tmp 86) (.tmp 87) 24 3 (.int .i64 0) 8 rfl Try.underlying24 info3 rfl (by decide) (by omega) (.slice A0 P.length d0) P lo Al lo.length cl (fun _ => True) (fun _ => False) rfl rfl (Kd.R_mono (K.out.rowAt 0 rfl) (fun _ _ => trivial)) (Kd.R_reads' HL.out).2.2 (fun _ _ h => h) (fun _ h => h.elim) (fun _ _ => trivial) K.out.below (below_size K.out.below) (by have := HLIM.out; simp; omega) ?_; intro v0 w3 ho hb hg hat; rw [← HP2.out] at ho; obtain ⟨A2, d2, rfl⟩ := Kd.R_slice ho; have HH3 := Aside0.mk (Kd.R_mono (ok' := fun _ => True) (Kd.R_kept (Kd.R_bound HH2.out) (Kept.of_grown hg (Kept.refl _ (fun k => (Value.slice A0 P.length d0).ownBlock = some k)) (fun k e => .inl e)) (fun k hk hv => by have h1 := HM0.out k hv; have h2 := hk.2.1; omega)) (fun _ _ => trivial)); have K' := Aside0.mk (K.out.grown (i := 0) rfl ho hb hg hat); clear K; have K := K'; clear K'; clear HL HH2 ho hb hg hat HM0 p4)
        | ((with_reducible refine gate_store (t := 24) (p := 90) (v := .tmp 88) rfl ?_); refine store_slice_ev rfl rfl (.tmp 90) (.tmp 88) rfl rfl rfl (K.out.get 0 rfl) (Nat.le_of_ble_eq_true rfl) (new := #[.int .i64 a0, .int .i64 y0, .int .i64 c0, .int .i64 y1, .slice A2 P2.length d2, .int .i64 a1, .int .i64 y0, .int .i64 c1, .int .i64 y1, .slice A1 Q.length d1]) rfl ?_; intro W90 hs; have HH4 := Aside0.mk (row_stored HH3.out (K.out.get 0 rfl) (by decide) hs); have K' := Aside0.mk (K.out.stored 0 rfl hs); clear K; have K := K'; clear K'; clear hs HH3; have p9 : W90.cell? ⟨g9, 9, none⟩ = some (.slice A1 Q.length d1) := K.out.cell 0 rfl 9 rfl)
        | ((with_reducible refine gate_builtin (b := .append) (xs := #[.tmp 93, .tmp 94]) rfl ?_); at_builtin; refine Kd.R_append_rows (Kd.int .i64) (w0 := w) w.heap.size rfl (.tmp 93) (.tmp 94) 24 3 (.int .i64 0) 8 rfl Try.underlying24 info3 rfl (by decide) (by omega) (.slice A1 Q.length d1) Q hi_ Ah hi_.length ch (fun _ => True) (fun _ => False) rfl rfl (Kd.R_mono (K.out.rowAt 1 rfl) (fun _ _ => trivial)) (Kd.R_reads' HH4.out).2.2 (fun _ _ h => h) (fun _ h => h.elim) (fun _ _ => trivial) K.out.below (below_size K.out.below) (by have := HLIM.out; simp; omega) ?_; intro v1 w4 ho hb hg hat; rw [← HQ2.out] at ho; obtain ⟨A3, d3, rfl⟩ := Kd.R_slice ho; have K' := Aside0.mk (K.out.grown (i := 1) rfl ho hb hg hat); clear K; have K := K'; clear K'; clear HH4 ho hb hg hat p9)
        | ((with_reducible refine gate_store (t := 24) (p := 97) (v := .tmp 95) rfl ?_); refine store_slice_ev rfl rfl (.tmp 97) (.tmp 95) rfl rfl rfl (K.out.get 0 rfl) (Nat.le_of_ble_eq_true rfl) (new := #[.int .i64 a0, .int .i64 y0, .int .i64 c0, .int .i64 y1, .slice A2 P2.length d2, .int .i64 a1, .int .i64 y0, .int .i64 c1, .int .i64 y1, .slice A3 Q2.length d3]) rfl ?_; intro W97 hs; have K' := Aside0.mk (K.out.stored 0 rfl hs); clear K; have K := K'; clear K'; clear hs))
      go_roundg kq
      case measure => omega
      case rel => exact ⟨y + 1, P2, Q2, A2, A3, d2, d3, by rw [hwy], ⟨by have := HYI.out; omega⟩, HX, ⟨K.out⟩⟩
    · rw [if_neg hi] at hs
      have hb0 : decide (y < y1) = false := decide_eq_false hi
      have hs' := Option.some.inj hs
      obtain ⟨rfl, rfl⟩ := Prod.mk.inj hs'
      clear hs hs' hi HY0 HR HC HV HX01
      have K := Aside0.mk (show Hold w.heap.size w wr [(g9, 78, #[.int .i64 a0, .int .i64 y0, .int .i64 c0, .int .i64 y1, .slice A0 P.length d0, .int .i64 a1, .int .i64 y0, .int .i64 c1, .int .i64 y1, .slice A1 Q.length d1]), (g8, 62, #[.int .i64 a0, .int .i64 e0, .int .i64 c0, .int .i64 f0, .int .i64 a1, .int .i64 e0, .int .i64 c1, .int .i64 f0, .int .i64 a0, .int .i64 e1, .int .i64 c0, .int .i64 f1, .int .i64 a1, .int .i64 e1, .int .i64 c1, .int .i64 f1]), (g7, 23, #[.int .i64 x0, .int .i64 y0, .int .i64 x1, .int .i64 y1]), (g6, 59, #[.int .i64 0, .int .i64 0, .int .i64 0, .int .i64 0, .slice none 0 0, .int .i64 0, .int .i64 0, .int .i64 0, .int .i64 0, .slice none 0 0, .int .i64 0, .int .i64 0, .int .i64 0, .int .i64 0, .slice none 0 0, .int .i64 0, .int .i64 0, .int .i64 0, .int .i64 0, .slice none 0 0]), (g4, 59, #[.int .i64 0, .int .i64 0, .int .i64 0, .int .i64 0, .slice none 0 0, .int .i64 0, .int .i64 0, .int .i64 0, .int .i64 0, .slice none 0 0, .int .i64 0, .int .i64 0, .int .i64 0, .int .i64 0, .slice none 0 0, .int .i64 0, .int .i64 0, .int .i64 0, .int .i64 0, .slice none 0 0]), (g3, 28, #[.int .i64 kk]), (g2, 26, #[.int .i64 x0, .int .i64 y0, .int .i64 x1, .int .i64 y1, .slice A D.length c])] [(.slice A0 P.length d0, P), (.slice A1 Q.length d1, Q)] from K.out)
      go_wp2
      go_loopg [98] 4 (fun kq v98 w' => ∃ n : Nat, v98 = .int .i64 (n : Int) ∧ n + kq = 4 ∧ ((n = 0 ∧ Aside0 (Hold w.heap.size w w' [(g9, 78, #[.int .i64 a0, .int .i64 y0, .int .i64 c0, .int .i64 y1, .slice A0 P.length d0, .int .i64 a1, .int .i64 y0, .int .i64 c1, .int .i64 y1, .slice A1 Q.length d1]), (g8, 62, #[.int .i64 a0, .int .i64 e0, .int .i64 c0, .int .i64 f0, .int .i64 a1, .int .i64 e0, .int .i64 c1, .int .i64 f0, .int .i64 a0, .int .i64 e1, .int .i64 c0, .int .i64 f1, .int .i64 a1, .int .i64 e1, .int .i64 c1, .int .i64 f1]), (g7, 23, #[.int .i64 x0, .int .i64 y0, .int .i64 x1, .int .i64 y1]), (g6, 59, #[.int .i64 0, .int .i64 0, .int .i64 0, .int .i64 0, .slice none 0 0, .int .i64 0, .int .i64 0, .int .i64 0, .int .i64 0, .slice none 0 0, .int .i64 0, .int .i64 0, .int .i64 0, .int .i64 0, .slice none 0 0, .int .i64 0, .int .i64 0, .int .i64 0, .int .i64 0, .slice none 0 0]), (g4, 59, #[.int .i64 0, .int .i64 0, .int .i64 0, .int .i64 0, .slice none 0 0, .int .i64 0, .int .i64 0, .int .i64 0, .int .i64 0, .slice none 0 0, .int .i64 0, .int .i64 0, .int .i64 0, .int .i64 0, .slice none 0 0, .int .i64 0, .int .i64 0, .int .i64 0, .int .i64 0, .slice none 0 0]), (g3, 28, #[.int .i64 kk]), (g2, 26, #[.int .i64 x0, .int .i64 y0, .int .i64 x1, .int .i64 y1, .slice A D.length c])] [(.slice A0 P.length d0, P), (.slice A1 Q.length d1, Q)])) ∨ (n = 1 ∧ ∃ v0 : Value, Aside0 (Hold w.heap.size w w' [(g9, 78, #[.int .i64 a0, .int .i64 y0, .int .i64 c0, .int .i64 y1, .slice A0 P.length d0, .int .i64 a1, .int .i64 y0, .int .i64 c1, .int .i64 y1, .slice A1 Q.length d1]), (g8, 62, #[.int .i64 a0, .int .i64 e0, .int .i64 c0, .int .i64 f0, .int .i64 a1, .int .i64 e0, .int .i64 c1, .int .i64 f0, .int .i64 a0, .int .i64 e1, .int .i64 c0, .int .i64 f1, .int .i64 a1, .int .i64 e1, .int .i64 c1, .int .i64 f1]), (g7, 23, #[.int .i64 x0, .int .i64 y0, .int .i64 x1, .int .i64 y1]), (g6, 59, #[.int .i64 a0, .int .i64 e0, .int .i64 c0, .int .i64 f0, v0, .int .i64 0, .int .i64 0, .int .i64 0, .int .i64 0, .slice none 0 0, .int .i64 0, .int .i64 0, .int .i64 0, .int .i64 0, .slice none 0 0, .int .i64 0, .int .i64 0, .int .i64 0, .int .i64 0, .slice none 0 0]), (g4, 59, #[.int .i64 0, .int .i64 0, .int .i64 0, .int .i64 0, .slice none 0 0, .int .i64 0, .int .i64 0, .int .i64 0, .int .i64 0, .slice none 0 0, .int .i64 0, .int .i64 0, .int .i64 0, .int .i64 0, .slice none 0 0, .int .i64 0, .int .i64 0, .int .i64 0, .int .i64 0, .slice none 0 0]), (g3, 28, #[.int .i64 kk]), (g2, 26, #[.int .i64 x0, .int .i64 y0, .int .i64 x1, .int .i64 y1, .slice A D.length c])] [(v0, Z0), (.slice A0 P.length d0, P), (.slice A1 Q.length d1, Q)])) ∨ (n = 2 ∧ ∃ v0 v1 : Value, Aside0 (Hold w.heap.size w w' [(g9, 78, #[.int .i64 a0, .int .i64 y0, .int .i64 c0, .int .i64 y1, .slice A0 P.length d0, .int .i64 a1, .int .i64 y0, .int .i64 c1, .int .i64 y1, .slice A1 Q.length d1]), (g8, 62, #[.int .i64 a0, .int .i64 e0, .int .i64 c0, .int .i64 f0, .int .i64 a1, .int .i64 e0, .int .i64 c1, .int .i64 f0, .int .i64 a0, .int .i64 e1, .int .i64 c0, .int .i64 f1, .int .i64 a1, .int .i64 e1, .int .i64 c1, .int .i64 f1]), (g7, 23, #[.int .i64 x0, .int .i64 y0, .int .i64 x1, .int .i64 y1]), (g6, 59, #[.int .i64 a0, .int .i64 e0, .int .i64 c0, .int .i64 f0, v0, .int .i64 a1, .int .i64 e0, .int .i64 c1, .int .i64 f0, v1, .int .i64 0, .int .i64 0, .int .i64 0, .int .i64 0, .slice none 0 0, .int .i64 0, .int .i64 0, .int .i64 0, .int .i64 0, .slice none 0 0]), (g4, 59, #[.int .i64 0, .int .i64 0, .int .i64 0, .int .i64 0, .slice none 0 0, .int .i64 0, .int .i64 0, .int .i64 0, .int .i64 0, .slice none 0 0, .int .i64 0, .int .i64 0, .int .i64 0, .int .i64 0, .slice none 0 0, .int .i64 0, .int .i64 0, .int .i64 0, .int .i64 0, .slice none 0 0]), (g3, 28, #[.int .i64 kk]), (g2, 26, #[.int .i64 x0, .int .i64 y0, .int .i64 x1, .int .i64 y1, .slice A D.length c])] [(v1, Z1), (v0, Z0), (.slice A0 P.length d0, P), (.slice A1 Q.length d1, Q)])) ∨ (n = 3 ∧ ∃ v0 v1 v2 : Value, Aside0 (Hold w.heap.size w w' [(g9, 78, #[.int .i64 a0, .int .i64 y0, .int .i64 c0, .int .i64 y1, .slice A0 P.length d0, .int .i64 a1, .int .i64 y0, .int .i64 c1, .int .i64 y1, .slice A1 Q.length d1]), (g8, 62, #[.int .i64 a0, .int .i64 e0, .int .i64 c0, .int .i64 f0, .int .i64 a1, .int .i64 e0, .int .i64 c1, .int .i64 f0, .int .i64 a0, .int .i64 e1, .int .i64 c0, .int .i64 f1, .int .i64 a1, .int .i64 e1, .int .i64 c1, .int .i64 f1]), (g7, 23, #[.int .i64 x0, .int .i64 y0, .int .i64 x1, .int .i64 y1]), (g6, 59, #[.int .i64 a0, .int .i64 e0, .int .i64 c0, .int .i64 f0, v0, .int .i64 a1, .int .i64 e0, .int .i64 c1, .int .i64 f0, v1, .int .i64 a0, .int .i64 e1, .int .i64 c0, .int .i64 f1, v2, .int .i64 0, .int .i64 0, .int .i64 0, .int .i64 0, .slice none 0 0]), (g4, 59, #[.int .i64 0, .int .i64 0, .int .i64 0, .int .i64 0, .slice none 0 0, .int .i64 0, .int .i64 0, .int .i64 0, .int .i64 0, .slice none 0 0, .int .i64 0, .int .i64 0, .int .i64 0, .int .i64 0, .slice none 0 0, .int .i64 0, .int .i64 0, .int .i64 0, .int .i64 0, .slice none 0 0]), (g3, 28, #[.int .i64 kk]), (g2, 26, #[.int .i64 x0, .int .i64 y0, .int .i64 x1, .int .i64 y1, .slice A D.length c])] [(v2, Z2), (v1, Z1), (v0, Z0), (.slice A0 P.length d0, P), (.slice A1 Q.length d1, Q)])) ∨ (n = 4 ∧ ∃ v0 v1 v2 v3 : Value, Aside0 (Hold w.heap.size w w' [(g9, 78, #[.int .i64 a0, .int .i64 y0, .int .i64 c0, .int .i64 y1, .slice A0 P.length d0, .int .i64 a1, .int .i64 y0, .int .i64 c1, .int .i64 y1, .slice A1 Q.length d1]), (g8, 62, #[.int .i64 a0, .int .i64 e0, .int .i64 c0, .int .i64 f0, .int .i64 a1, .int .i64 e0, .int .i64 c1, .int .i64 f0, .int .i64 a0, .int .i64 e1, .int .i64 c0, .int .i64 f1, .int .i64 a1, .int .i64 e1, .int .i64 c1, .int .i64 f1]), (g7, 23, #[.int .i64 x0, .int .i64 y0, .int .i64 x1, .int .i64 y1]), (g6, 59, #[.int .i64 a0, .int .i64 e0, .int .i64 c0, .int .i64 f0, v0, .int .i64 a1, .int .i64 e0, .int .i64 c1, .int .i64 f0, v1, .int .i64 a0, .int .i64 e1, .int .i64 c0, .int .i64 f1, v2, .int .i64 a1, .int .i64 e1, .int .i64 c1, .int .i64 f1, v3]), (g4, 59, #[.int .i64 0, .int .i64 0, .int .i64 0, .int .i64 0, .slice none 0 0, .int .i64 0, .int .i64 0, .int .i64 0, .int .i64 0, .slice none 0 0, .int .i64 0, .int .i64 0, .int .i64 0, .int .i64 0, .slice none 0 0, .int .i64 0, .int .i64 0, .int .i64 0, .int .i64 0, .slice none 0 0]), (g3, 28, #[.int .i64 kk]), (g2, 26, #[.int .i64 x0, .int .i64 y0, .int .i64 x1, .int .i64 y1, .slice A D.length c])] [(v3, Z3), (v2, Z2), (v1, Z1), (v0, Z0), (.slice A0 P.length d0, P), (.slice A1 Q.length d1, Q)]))))
      case atStart => exact ⟨0, rfl, rfl, .inl ⟨rfl, K⟩⟩
      case round =>
      clear K
      obtain ⟨n, rfl, hn, hKK⟩ := hrel
      rcases hKK with ⟨rfl, K⟩ | ⟨rfl, v0, K⟩ | ⟨rfl, v0, v1, K⟩ | ⟨rfl, v0, v1, v2, K⟩ | ⟨rfl, v0, v1, v2, v3, K⟩
      · have hb0 : decide (((0 : Nat) : Int) < 4) = true := rfl
        go_wp2_with (first
          | ((with_reducible refine gate_dst (N := 104) rfl ?_); refine load_mid_ev (i := 0) (cs := #[.int .i64 a0, .int .i64 e0, .int .i64 c0, .int .i64 f0]) rfl 23 (.tmp 103) rfl rfl (K.out.get 1 rfl) (fun j v hj => by rcases j with _ | _ | _ | _ | j <;> first | exact hj | (simp at hj)) Try.underlying23 rfl rfl ?_)
          | (go_at_call 60; (with_reducible refine (dwt_empty.calls  a0  e0  c0  f0  a0  e0  c0  f0 Z0 _ HE0.out).mono ?_); rintro _ w60 ⟨vz, rfl, hR, b⟩; obtain ⟨Az, dz, rfl⟩ := Kd.R_slice hR; have K' := Aside0.mk (K.out.add (below_size K.out.below) hR b); clear K; have K := K'; clear K'; clear b hR)
          | ((with_reducible refine gate_store (t := 26) (p := 106) (v := .tmp 105) rfl ?_); refine store_mid_ev (cs := #[.int .i64 a0, .int .i64 e0, .int .i64 c0, .int .i64 f0, .slice Az Z0.length dz]) rfl rfl 26 (.tmp 106) (.tmp 105) rfl rfl (by kernel_rfl) (K.out.get 3 rfl) (Nat.le_of_ble_eq_true rfl) rfl (by first | (kernel_rfl) | (simp [Value.oneCell'])) (new := #[.int .i64 a0, .int .i64 e0, .int .i64 c0, .int .i64 f0, (.slice Az Z0.length dz), .int .i64 0, .int .i64 0, .int .i64 0, .int .i64 0, .slice none 0 0, .int .i64 0, .int .i64 0, .int .i64 0, .int .i64 0, .slice none 0 0, .int .i64 0, .int .i64 0, .int .i64 0, .int .i64 0, .slice none 0 0]) rfl ?_; intro wS hs; have K' := Aside0.mk (K.out.stored 3 rfl hs); clear K; have K := K'; clear K'; clear hs))
        go_roundg (3)
        case measure => omega
        case rel => exact ⟨1, rfl, by omega, .inr (.inl ⟨rfl, _, ⟨K.out⟩⟩)⟩
      · have hb0 : decide (((1 : Nat) : Int) < 4) = true := rfl
        go_wp2_with (first
          | ((with_reducible refine gate_dst (N := 104) rfl ?_); refine load_mid_ev (i := 4) (cs := #[.int .i64 a1, .int .i64 e0, .int .i64 c1, .int .i64 f0]) rfl 23 (.tmp 103) rfl rfl (K.out.get 1 rfl) (fun j v hj => by rcases j with _ | _ | _ | _ | j <;> first | exact hj | (simp at hj)) Try.underlying23 rfl rfl ?_)
          | (go_at_call 60; (with_reducible refine (dwt_empty.calls  a1  e0  c1  f0  a1  e0  c1  f0 Z1 _ HE1.out).mono ?_); rintro _ w60 ⟨vz, rfl, hR, b⟩; obtain ⟨Az, dz, rfl⟩ := Kd.R_slice hR; have K' := Aside0.mk (K.out.add (below_size K.out.below) hR b); clear K; have K := K'; clear K'; clear b hR)
          | ((with_reducible refine gate_store (t := 26) (p := 106) (v := .tmp 105) rfl ?_); refine store_mid_ev (cs := #[.int .i64 a1, .int .i64 e0, .int .i64 c1, .int .i64 f0, .slice Az Z1.length dz]) rfl rfl 26 (.tmp 106) (.tmp 105) rfl rfl (by kernel_rfl) (K.out.get 3 rfl) (Nat.le_of_ble_eq_true rfl) rfl (by first | (kernel_rfl) | (simp [Value.oneCell'])) (new := #[.int .i64 a0, .int .i64 e0, .int .i64 c0, .int .i64 f0, v0, .int .i64 a1, .int .i64 e0, .int .i64 c1, .int .i64 f0, (.slice Az Z1.length dz), .int .i64 0, .int .i64 0, .int .i64 0, .int .i64 0, .slice none 0 0, .int .i64 0, .int .i64 0, .int .i64 0, .int .i64 0, .slice none 0 0]) rfl ?_; intro wS hs; have K' := Aside0.mk (K.out.stored 3 rfl hs); clear K; have K := K'; clear K'; clear hs))
        go_roundg (2)
        case measure => omega
        case rel => exact ⟨2, rfl, by omega, .inr (.inr (.inl ⟨rfl, v0, _, ⟨K.out⟩⟩))⟩
      · have hb0 : decide (((2 : Nat) : Int) < 4) = true := rfl
        go_wp2_with (first
          | ((with_reducible refine gate_dst (N := 104) rfl ?_); refine load_mid_ev (i := 8) (cs := #[.int .i64 a0, .int .i64 e1, .int .i64 c0, .int .i64 f1]) rfl 23 (.tmp 103) rfl rfl (K.out.get 1 rfl) (fun j v hj => by rcases j with _ | _ | _ | _ | j <;> first | exact hj | (simp at hj)) Try.underlying23 rfl rfl ?_)
          | (go_at_call 60; (with_reducible refine (dwt_empty.calls  a0  e1  c0  f1  a0  e1  c0  f1 Z2 _ HE2.out).mono ?_); rintro _ w60 ⟨vz, rfl, hR, b⟩; obtain ⟨Az, dz, rfl⟩ := Kd.R_slice hR; have K' := Aside0.mk (K.out.add (below_size K.out.below) hR b); clear K; have K := K'; clear K'; clear b hR)
          | ((with_reducible refine gate_store (t := 26) (p := 106) (v := .tmp 105) rfl ?_); refine store_mid_ev (cs := #[.int .i64 a0, .int .i64 e1, .int .i64 c0, .int .i64 f1, .slice Az Z2.length dz]) rfl rfl 26 (.tmp 106) (.tmp 105) rfl rfl (by kernel_rfl) (K.out.get 3 rfl) (Nat.le_of_ble_eq_true rfl) rfl (by first | (kernel_rfl) | (simp [Value.oneCell'])) (new := #[.int .i64 a0, .int .i64 e0, .int .i64 c0, .int .i64 f0, v0, .int .i64 a1, .int .i64 e0, .int .i64 c1, .int .i64 f0, v1, .int .i64 a0, .int .i64 e1, .int .i64 c0, .int .i64 f1, (.slice Az Z2.length dz), .int .i64 0, .int .i64 0, .int .i64 0, .int .i64 0, .slice none 0 0]) rfl ?_; intro wS hs; have K' := Aside0.mk (K.out.stored 3 rfl hs); clear K; have K := K'; clear K'; clear hs))
        go_roundg (1)
        case measure => omega
        case rel => exact ⟨3, rfl, by omega, .inr (.inr (.inr (.inl ⟨rfl, v0, v1, _, ⟨K.out⟩⟩)))⟩
      · have hb0 : decide (((3 : Nat) : Int) < 4) = true := rfl
        go_wp2_with (first
          | ((with_reducible refine gate_dst (N := 104) rfl ?_); refine load_mid_ev (i := 12) (cs := #[.int .i64 a1, .int .i64 e1, .int .i64 c1, .int .i64 f1]) rfl 23 (.tmp 103) rfl rfl (K.out.get 1 rfl) (fun j v hj => by rcases j with _ | _ | _ | _ | j <;> first | exact hj | (simp at hj)) Try.underlying23 rfl rfl ?_)
          | (go_at_call 60; (with_reducible refine (dwt_empty.calls  a1  e1  c1  f1  a1  e1  c1  f1 Z3 _ HE3.out).mono ?_); rintro _ w60 ⟨vz, rfl, hR, b⟩; obtain ⟨Az, dz, rfl⟩ := Kd.R_slice hR; have K' := Aside0.mk (K.out.add (below_size K.out.below) hR b); clear K; have K := K'; clear K'; clear b hR)
          | ((with_reducible refine gate_store (t := 26) (p := 106) (v := .tmp 105) rfl ?_); refine store_mid_ev (cs := #[.int .i64 a1, .int .i64 e1, .int .i64 c1, .int .i64 f1, .slice Az Z3.length dz]) rfl rfl 26 (.tmp 106) (.tmp 105) rfl rfl (by kernel_rfl) (K.out.get 3 rfl) (Nat.le_of_ble_eq_true rfl) rfl (by first | (kernel_rfl) | (simp [Value.oneCell'])) (new := #[.int .i64 a0, .int .i64 e0, .int .i64 c0, .int .i64 f0, v0, .int .i64 a1, .int .i64 e0, .int .i64 c1, .int .i64 f0, v1, .int .i64 a0, .int .i64 e1, .int .i64 c0, .int .i64 f1, v2, .int .i64 a1, .int .i64 e1, .int .i64 c1, .int .i64 f1, (.slice Az Z3.length dz)]) rfl ?_; intro wS hs; have K' := Aside0.mk (K.out.stored 3 rfl hs); clear K; have K := K'; clear K'; clear hs))
        go_roundg (0)
        case measure => omega
        case rel => exact ⟨4, rfl, by omega, .inr (.inr (.inr (.inr (⟨rfl, v0, v1, v2, _, ⟨K.out⟩⟩))))⟩
      · have hb0 : decide (((4 : Nat) : Int) < 4) = false := rfl
        have hmf : ∀ (fn : Fn) (first cap : Array Value) (w : World), (Instr.makeFunc fn first cap).run Try.prog w = .ok (.func fn first cap) w := fun _ _ _ _ => rfl
        go_wp2
        clear hb0 hn HE0 HE1 HE2 HE3
        go_loopg [109] 2 (fun kq v109 w' => ∃ n : Nat, v109 = .int .i64 (n : Int) ∧ n + kq = 2 ∧ ((n = 0 ∧ Aside0 (Hold w.heap.size w w' [(g9, 78, #[.int .i64 a0, .int .i64 y0, .int .i64 c0, .int .i64 y1, .slice A0 P.length d0, .int .i64 a1, .int .i64 y0, .int .i64 c1, .int .i64 y1, .slice A1 Q.length d1]), (g8, 62, #[.int .i64 a0, .int .i64 e0, .int .i64 c0, .int .i64 f0, .int .i64 a1, .int .i64 e0, .int .i64 c1, .int .i64 f0, .int .i64 a0, .int .i64 e1, .int .i64 c0, .int .i64 f1, .int .i64 a1, .int .i64 e1, .int .i64 c1, .int .i64 f1]), (g7, 23, #[.int .i64 x0, .int .i64 y0, .int .i64 x1, .int .i64 y1]), (g6, 59, #[.int .i64 a0, .int .i64 e0, .int .i64 c0, .int .i64 f0, v0, .int .i64 a1, .int .i64 e0, .int .i64 c1, .int .i64 f0, v1, .int .i64 a0, .int .i64 e1, .int .i64 c0, .int .i64 f1, v2, .int .i64 a1, .int .i64 e1, .int .i64 c1, .int .i64 f1, v3]), (g4, 59, #[.int .i64 0, .int .i64 0, .int .i64 0, .int .i64 0, .slice none 0 0, .int .i64 0, .int .i64 0, .int .i64 0, .int .i64 0, .slice none 0 0, .int .i64 0, .int .i64 0, .int .i64 0, .int .i64 0, .slice none 0 0, .int .i64 0, .int .i64 0, .int .i64 0, .int .i64 0, .slice none 0 0]), (g3, 28, #[.int .i64 kk]), (g2, 26, #[.int .i64 x0, .int .i64 y0, .int .i64 x1, .int .i64 y1, .slice A D.length c])] [(v3, Z3), (v2, Z2), (v1, Z1), (v0, Z0), (.slice A0 P.length d0, P), (.slice A1 Q.length d1, Q)])) ∨ (n = 1 ∧ Aside0 (Hold w.heap.size w w' [(g9, 78, #[.int .i64 a0, .int .i64 y0, .int .i64 c0, .int .i64 y1, .slice A0 P.length d0, .int .i64 a1, .int .i64 y0, .int .i64 c1, .int .i64 y1, .slice A1 Q.length d1]), (g8, 62, #[.int .i64 a0, .int .i64 e0, .int .i64 c0, .int .i64 f0, .int .i64 a1, .int .i64 e0, .int .i64 c1, .int .i64 f0, .int .i64 a0, .int .i64 e1, .int .i64 c0, .int .i64 f1, .int .i64 a1, .int .i64 e1, .int .i64 c1, .int .i64 f1]), (g7, 23, #[.int .i64 x0, .int .i64 y0, .int .i64 x1, .int .i64 y1]), (g6, 59, #[.int .i64 a0, .int .i64 e0, .int .i64 c0, .int .i64 f0, v0, .int .i64 a1, .int .i64 e0, .int .i64 c1, .int .i64 f0, v1, .int .i64 a0, .int .i64 e1, .int .i64 c0, .int .i64 f1, v2, .int .i64 a1, .int .i64 e1, .int .i64 c1, .int .i64 f1, v3]), (g4, 59, #[.int .i64 0, .int .i64 0, .int .i64 0, .int .i64 0, .slice none 0 0, .int .i64 0, .int .i64 0, .int .i64 0, .int .i64 0, .slice none 0 0, .int .i64 0, .int .i64 0, .int .i64 0, .int .i64 0, .slice none 0 0, .int .i64 0, .int .i64 0, .int .i64 0, .int .i64 0, .slice none 0 0]), (g3, 28, #[.int .i64 kk]), (g2, 26, #[.int .i64 x0, .int .i64 y0, .int .i64 x1, .int .i64 y1, .slice A D.length c])] [(v3, Z3), (v2, G2), (v1, Z1), (v0, G0), (.slice A0 P.length d0, P), (.slice A1 Q.length d1, Q)])) ∨ (n = 2 ∧ Aside0 (Hold w.heap.size w w' [(g9, 78, #[.int .i64 a0, .int .i64 y0, .int .i64 c0, .int .i64 y1, .slice A0 P.length d0, .int .i64 a1, .int .i64 y0, .int .i64 c1, .int .i64 y1, .slice A1 Q.length d1]), (g8, 62, #[.int .i64 a0, .int .i64 e0, .int .i64 c0, .int .i64 f0, .int .i64 a1, .int .i64 e0, .int .i64 c1, .int .i64 f0, .int .i64 a0, .int .i64 e1, .int .i64 c0, .int .i64 f1, .int .i64 a1, .int .i64 e1, .int .i64 c1, .int .i64 f1]), (g7, 23, #[.int .i64 x0, .int .i64 y0, .int .i64 x1, .int .i64 y1]), (g6, 59, #[.int .i64 a0, .int .i64 e0, .int .i64 c0, .int .i64 f0, v0, .int .i64 a1, .int .i64 e0, .int .i64 c1, .int .i64 f0, v1, .int .i64 a0, .int .i64 e1, .int .i64 c0, .int .i64 f1, v2, .int .i64 a1, .int .i64 e1, .int .i64 c1, .int .i64 f1, v3]), (g4, 59, #[.int .i64 0, .int .i64 0, .int .i64 0, .int .i64 0, .slice none 0 0, .int .i64 0, .int .i64 0, .int .i64 0, .int .i64 0, .slice none 0 0, .int .i64 0, .int .i64 0, .int .i64 0, .int .i64 0, .slice none 0 0, .int .i64 0, .int .i64 0, .int .i64 0, .int .i64 0, .slice none 0 0]), (g3, 28, #[.int .i64 kk]), (g2, 26, #[.int .i64 x0, .int .i64 y0, .int .i64 x1, .int .i64 y1, .slice A D.length c])] [(v3, G3), (v2, G2), (v1, G1), (v0, G0), (.slice A0 P.length d0, P), (.slice A1 Q.length d1, Q)]))))
        case atStart => exact ⟨0, rfl, rfl, .inl ⟨rfl, K⟩⟩
        case round =>
        clear K
        obtain ⟨n, rfl, hn, hKK⟩ := hrel
        rcases hKK with ⟨rfl, K⟩ | ⟨rfl, K⟩ | ⟨rfl, K⟩
        · have hb0 : decide (((0 : Nat) : Int) < 2) = true := rfl
          have PF0 : ([(g9, 78, #[.int .i64 a0, .int .i64 y0, .int .i64 c0, .int .i64 y1, .slice A0 P.length d0, .int .i64 a1, .int .i64 y0, .int .i64 c1, .int .i64 y1, .slice A1 Q.length d1]), (g8, 62, #[.int .i64 a0, .int .i64 e0, .int .i64 c0, .int .i64 f0, .int .i64 a1, .int .i64 e0, .int .i64 c1, .int .i64 f0, .int .i64 a0, .int .i64 e1, .int .i64 c0, .int .i64 f1, .int .i64 a1, .int .i64 e1, .int .i64 c1, .int .i64 f1]), (g7, 23, #[.int .i64 x0, .int .i64 y0, .int .i64 x1, .int .i64 y1]), (g6, 59, #[.int .i64 a0, .int .i64 e0, .int .i64 c0, .int .i64 f0, v0, .int .i64 a1, .int .i64 e0, .int .i64 c1, .int .i64 f0, v1, .int .i64 a0, .int .i64 e1, .int .i64 c0, .int .i64 f1, v2, .int .i64 a1, .int .i64 e1, .int .i64 c1, .int .i64 f1, v3]), (g4, 59, #[.int .i64 0, .int .i64 0, .int .i64 0, .int .i64 0, .slice none 0 0, .int .i64 0, .int .i64 0, .int .i64 0, .int .i64 0, .slice none 0 0, .int .i64 0, .int .i64 0, .int .i64 0, .int .i64 0, .slice none 0 0, .int .i64 0, .int .i64 0, .int .i64 0, .int .i64 0, .slice none 0 0]), (g3, 28, #[.int .i64 kk]), (g2, 26, #[.int .i64 x0, .int .i64 y0, .int .i64 x1, .int .i64 y1, .slice A D.length c])])[0]? = some (g9, 78, #[.int .i64 a0, .int .i64 y0, .int .i64 c0, .int .i64 y1, .slice A0 P.length d0, .int .i64 a1, .int .i64 y0, .int .i64 c1, .int .i64 y1, .slice A1 Q.length d1]) := rfl
          have PF1_0 : ∀ (j : Nat) (v : Value), (#[.int .i64 a0, .int .i64 y0, .int .i64 c0, .int .i64 y1, .slice A0 P.length d0] : Array Value)[j]? = some v → (#[.int .i64 a0, .int .i64 y0, .int .i64 c0, .int .i64 y1, .slice A0 P.length d0, .int .i64 a1, .int .i64 y0, .int .i64 c1, .int .i64 y1, .slice A1 Q.length d1] : Array Value)[0 + j]? = some v := by intro j v hj; rcases j with _ | _ | _ | _ | _ | j <;> first | exact hj | (simp at hj)
          have PF2 : ([(g9, 78, #[.int .i64 a0, .int .i64 y0, .int .i64 c0, .int .i64 y1, .slice A0 P.length d0, .int .i64 a1, .int .i64 y0, .int .i64 c1, .int .i64 y1, .slice A1 Q.length d1]), (g8, 62, #[.int .i64 a0, .int .i64 e0, .int .i64 c0, .int .i64 f0, .int .i64 a1, .int .i64 e0, .int .i64 c1, .int .i64 f0, .int .i64 a0, .int .i64 e1, .int .i64 c0, .int .i64 f1, .int .i64 a1, .int .i64 e1, .int .i64 c1, .int .i64 f1]), (g7, 23, #[.int .i64 x0, .int .i64 y0, .int .i64 x1, .int .i64 y1]), (g6, 59, #[.int .i64 a0, .int .i64 e0, .int .i64 c0, .int .i64 f0, v0, .int .i64 a1, .int .i64 e0, .int .i64 c1, .int .i64 f0, v1, .int .i64 a0, .int .i64 e1, .int .i64 c0, .int .i64 f1, v2, .int .i64 a1, .int .i64 e1, .int .i64 c1, .int .i64 f1, v3]), (g4, 59, #[.int .i64 0, .int .i64 0, .int .i64 0, .int .i64 0, .slice none 0 0, .int .i64 0, .int .i64 0, .int .i64 0, .int .i64 0, .slice none 0 0, .int .i64 0, .int .i64 0, .int .i64 0, .int .i64 0, .slice none 0 0, .int .i64 0, .int .i64 0, .int .i64 0, .int .i64 0, .slice none 0 0]), (g3, 28, #[.int .i64 kk]), (g2, 26, #[.int .i64 x0, .int .i64 y0, .int .i64 x1, .int .i64 y1, .slice A D.length c])])[2]? = some (g7, 23, #[.int .i64 x0, .int .i64 y0, .int .i64 x1, .int .i64 y1]) := rfl
          have PF3 : (#[.int .i64 x0, .int .i64 y0, .int .i64 x1, .int .i64 y1] : Array Value)[1]? = some (.int .i64 y0) := rfl
          have PF4 : ([(g9, 78, #[.int .i64 a0, .int .i64 y0, .int .i64 c0, .int .i64 y1, .slice A0 P.length d0, .int .i64 a1, .int .i64 y0, .int .i64 c1, .int .i64 y1, .slice A1 Q.length d1]), (g8, 62, #[.int .i64 a0, .int .i64 e0, .int .i64 c0, .int .i64 f0, .int .i64 a1, .int .i64 e0, .int .i64 c1, .int .i64 f0, .int .i64 a0, .int .i64 e1, .int .i64 c0, .int .i64 f1, .int .i64 a1, .int .i64 e1, .int .i64 c1, .int .i64 f1]), (g7, 23, #[.int .i64 x0, .int .i64 y0, .int .i64 x1, .int .i64 y1]), (g6, 59, #[.int .i64 a0, .int .i64 e0, .int .i64 c0, .int .i64 f0, v0, .int .i64 a1, .int .i64 e0, .int .i64 c1, .int .i64 f0, v1, .int .i64 a0, .int .i64 e1, .int .i64 c0, .int .i64 f1, v2, .int .i64 a1, .int .i64 e1, .int .i64 c1, .int .i64 f1, v3]), (g4, 59, #[.int .i64 0, .int .i64 0, .int .i64 0, .int .i64 0, .slice none 0 0, .int .i64 0, .int .i64 0, .int .i64 0, .int .i64 0, .slice none 0 0, .int .i64 0, .int .i64 0, .int .i64 0, .int .i64 0, .slice none 0 0, .int .i64 0, .int .i64 0, .int .i64 0, .int .i64 0, .slice none 0 0]), (g3, 28, #[.int .i64 kk]), (g2, 26, #[.int .i64 x0, .int .i64 y0, .int .i64 x1, .int .i64 y1, .slice A D.length c])])[5]? = some (g3, 28, #[.int .i64 kk]) := rfl
          have PF5 : ([(g9, 78, #[.int .i64 a0, .int .i64 y0, .int .i64 c0, .int .i64 y1, .slice A0 P.length d0, .int .i64 a1, .int .i64 y0, .int .i64 c1, .int .i64 y1, .slice A1 Q.length d1]), (g8, 62, #[.int .i64 a0, .int .i64 e0, .int .i64 c0, .int .i64 f0, .int .i64 a1, .int .i64 e0, .int .i64 c1, .int .i64 f0, .int .i64 a0, .int .i64 e1, .int .i64 c0, .int .i64 f1, .int .i64 a1, .int .i64 e1, .int .i64 c1, .int .i64 f1]), (g7, 23, #[.int .i64 x0, .int .i64 y0, .int .i64 x1, .int .i64 y1]), (g6, 59, #[.int .i64 a0, .int .i64 e0, .int .i64 c0, .int .i64 f0, v0, .int .i64 a1, .int .i64 e0, .int .i64 c1, .int .i64 f0, v1, .int .i64 a0, .int .i64 e1, .int .i64 c0, .int .i64 f1, v2, .int .i64 a1, .int .i64 e1, .int .i64 c1, .int .i64 f1, v3]), (g4, 59, #[.int .i64 0, .int .i64 0, .int .i64 0, .int .i64 0, .slice none 0 0, .int .i64 0, .int .i64 0, .int .i64 0, .int .i64 0, .slice none 0 0, .int .i64 0, .int .i64 0, .int .i64 0, .int .i64 0, .slice none 0 0, .int .i64 0, .int .i64 0, .int .i64 0, .int .i64 0, .slice none 0 0]), (g3, 28, #[.int .i64 kk]), (g2, 26, #[.int .i64 x0, .int .i64 y0, .int .i64 x1, .int .i64 y1, .slice A D.length c])])[3]? = some (g6, 59, #[.int .i64 a0, .int .i64 e0, .int .i64 c0, .int .i64 f0, v0, .int .i64 a1, .int .i64 e0, .int .i64 c1, .int .i64 f0, v1, .int .i64 a0, .int .i64 e1, .int .i64 c0, .int .i64 f1, v2, .int .i64 a1, .int .i64 e1, .int .i64 c1, .int .i64 f1, v3]) := rfl
          have PF6_0 : (#[.int .i64 a0, .int .i64 e0, .int .i64 c0, .int .i64 f0, v0, .int .i64 a1, .int .i64 e0, .int .i64 c1, .int .i64 f0, v1, .int .i64 a0, .int .i64 e1, .int .i64 c0, .int .i64 f1, v2, .int .i64 a1, .int .i64 e1, .int .i64 c1, .int .i64 f1, v3] : Array Value)[0]? = some (.int .i64 a0) ∧ (#[.int .i64 a0, .int .i64 e0, .int .i64 c0, .int .i64 f0, v0, .int .i64 a1, .int .i64 e0, .int .i64 c1, .int .i64 f0, v1, .int .i64 a0, .int .i64 e1, .int .i64 c0, .int .i64 f1, v2, .int .i64 a1, .int .i64 e1, .int .i64 c1, .int .i64 f1, v3] : Array Value)[0+2]? = some (.int .i64 c0) ∧ (#[.int .i64 a0, .int .i64 e0, .int .i64 c0, .int .i64 f0, v0, .int .i64 a1, .int .i64 e0, .int .i64 c1, .int .i64 f0, v1, .int .i64 a0, .int .i64 e1, .int .i64 c0, .int .i64 f1, v2, .int .i64 a1, .int .i64 e1, .int .i64 c1, .int .i64 f1, v3] : Array Value)[0+4]? = some v0 := ⟨rfl, rfl, rfl⟩
          have PF7_0 : (#[.int .i64 a0, .int .i64 e0, .int .i64 c0, .int .i64 f0, v0, .int .i64 a1, .int .i64 e0, .int .i64 c1, .int .i64 f0, v1, .int .i64 a0, .int .i64 e1, .int .i64 c0, .int .i64 f1, v2, .int .i64 a1, .int .i64 e1, .int .i64 c1, .int .i64 f1, v3] : Array Value)[10]? = some (.int .i64 a0) ∧ (#[.int .i64 a0, .int .i64 e0, .int .i64 c0, .int .i64 f0, v0, .int .i64 a1, .int .i64 e0, .int .i64 c1, .int .i64 f0, v1, .int .i64 a0, .int .i64 e1, .int .i64 c0, .int .i64 f1, v2, .int .i64 a1, .int .i64 e1, .int .i64 c1, .int .i64 f1, v3] : Array Value)[10+2]? = some (.int .i64 c0) ∧ (#[.int .i64 a0, .int .i64 e0, .int .i64 c0, .int .i64 f0, v0, .int .i64 a1, .int .i64 e0, .int .i64 c1, .int .i64 f0, v1, .int .i64 a0, .int .i64 e1, .int .i64 c0, .int .i64 f1, v2, .int .i64 a1, .int .i64 e1, .int .i64 c1, .int .i64 f1, v3] : Array Value)[10+4]? = some v2 := ⟨rfl, rfl, rfl⟩
          have PR0_0 : ([(v3, Z3), (v2, Z2), (v1, Z1), (v0, Z0), (.slice A0 P.length d0, P), (.slice A1 Q.length d1, Q)])[4]? = some (.slice A0 P.length d0, P) := rfl
          have PR1_0 : ([(v3, Z3), (v2, Z2), (v1, Z1), (v0, Z0), (.slice A0 P.length d0, P), (.slice A1 Q.length d1, Q)])[3]? = some (v0, Z0) := rfl
          have PR2_0 : ([(v3, Z3), (v2, Z2), (v1, Z1), (v0, Z0), (.slice A0 P.length d0, P), (.slice A1 Q.length d1, Q)])[1]? = some (v2, Z2) := rfl
          have PJ_0 : 3 ≠ 4 ∧ 1 ≠ 4 ∧ 3 ≠ 1 := by decide
          go_wp2_with (first
            | (go_at_call 61; (with_reducible refine (dwt_Split1_0.good k ks kk a0 y0 c0 y1 A0 d0 P Z0 Z2 G0 G2 v0 v2 w.heap.size w _ _ _ 0 2 5 3 g9 g7 g3 g6 4 3 1 #[.int .i64 a0, .int .i64 y0, .int .i64 c0, .int .i64 y1, .slice A0 P.length d0, .int .i64 a1, .int .i64 y0, .int .i64 c1, .int .i64 y1, .slice A1 Q.length d1] #[.int .i64 x0, .int .i64 y0, .int .i64 x1, .int .i64 y1] #[.int .i64 a0, .int .i64 e0, .int .i64 c0, .int .i64 f0, v0, .int .i64 a1, .int .i64 e0, .int .i64 c1, .int .i64 f0, v1, .int .i64 a0, .int .i64 e1, .int .i64 c0, .int .i64 f1, v2, .int .i64 a1, .int .i64 e1, .int .i64 c1, .int .i64 f1, v3] K.out rfl PF0 PF1_0 PF2 PF3 PF4 PF5 PF6_0 PF7_0 PR0_0 PR1_0 PR2_0 PJ_0 HV0.out HKK.out.1 HKK.out.2 HS0.out).mono ?_); rintro _ w61 ⟨rfl, hH⟩; clear K; have K := Aside0.mk hH; clear hH))
          go_roundg (1)
          case measure => omega
          case rel => exact ⟨1, rfl, by omega, .inr (.inl ⟨rfl, ⟨K.out⟩⟩)⟩
        · have hb0 : decide (((1 : Nat) : Int) < 2) = true := rfl
          have PF0 : ([(g9, 78, #[.int .i64 a0, .int .i64 y0, .int .i64 c0, .int .i64 y1, .slice A0 P.length d0, .int .i64 a1, .int .i64 y0, .int .i64 c1, .int .i64 y1, .slice A1 Q.length d1]), (g8, 62, #[.int .i64 a0, .int .i64 e0, .int .i64 c0, .int .i64 f0, .int .i64 a1, .int .i64 e0, .int .i64 c1, .int .i64 f0, .int .i64 a0, .int .i64 e1, .int .i64 c0, .int .i64 f1, .int .i64 a1, .int .i64 e1, .int .i64 c1, .int .i64 f1]), (g7, 23, #[.int .i64 x0, .int .i64 y0, .int .i64 x1, .int .i64 y1]), (g6, 59, #[.int .i64 a0, .int .i64 e0, .int .i64 c0, .int .i64 f0, v0, .int .i64 a1, .int .i64 e0, .int .i64 c1, .int .i64 f0, v1, .int .i64 a0, .int .i64 e1, .int .i64 c0, .int .i64 f1, v2, .int .i64 a1, .int .i64 e1, .int .i64 c1, .int .i64 f1, v3]), (g4, 59, #[.int .i64 0, .int .i64 0, .int .i64 0, .int .i64 0, .slice none 0 0, .int .i64 0, .int .i64 0, .int .i64 0, .int .i64 0, .slice none 0 0, .int .i64 0, .int .i64 0, .int .i64 0, .int .i64 0, .slice none 0 0, .int .i64 0, .int .i64 0, .int .i64 0, .int .i64 0, .slice none 0 0]), (g3, 28, #[.int .i64 kk]), (g2, 26, #[.int .i64 x0, .int .i64 y0, .int .i64 x1, .int .i64 y1, .slice A D.length c])])[0]? = some (g9, 78, #[.int .i64 a0, .int .i64 y0, .int .i64 c0, .int .i64 y1, .slice A0 P.length d0, .int .i64 a1, .int .i64 y0, .int .i64 c1, .int .i64 y1, .slice A1 Q.length d1]) := rfl
          have PF1_1 : ∀ (j : Nat) (v : Value), (#[.int .i64 a1, .int .i64 y0, .int .i64 c1, .int .i64 y1, .slice A1 Q.length d1] : Array Value)[j]? = some v → (#[.int .i64 a0, .int .i64 y0, .int .i64 c0, .int .i64 y1, .slice A0 P.length d0, .int .i64 a1, .int .i64 y0, .int .i64 c1, .int .i64 y1, .slice A1 Q.length d1] : Array Value)[5 + j]? = some v := by intro j v hj; rcases j with _ | _ | _ | _ | _ | j <;> first | exact hj | (simp at hj)
          have PF2 : ([(g9, 78, #[.int .i64 a0, .int .i64 y0, .int .i64 c0, .int .i64 y1, .slice A0 P.length d0, .int .i64 a1, .int .i64 y0, .int .i64 c1, .int .i64 y1, .slice A1 Q.length d1]), (g8, 62, #[.int .i64 a0, .int .i64 e0, .int .i64 c0, .int .i64 f0, .int .i64 a1, .int .i64 e0, .int .i64 c1, .int .i64 f0, .int .i64 a0, .int .i64 e1, .int .i64 c0, .int .i64 f1, .int .i64 a1, .int .i64 e1, .int .i64 c1, .int .i64 f1]), (g7, 23, #[.int .i64 x0, .int .i64 y0, .int .i64 x1, .int .i64 y1]), (g6, 59, #[.int .i64 a0, .int .i64 e0, .int .i64 c0, .int .i64 f0, v0, .int .i64 a1, .int .i64 e0, .int .i64 c1, .int .i64 f0, v1, .int .i64 a0, .int .i64 e1, .int .i64 c0, .int .i64 f1, v2, .int .i64 a1, .int .i64 e1, .int .i64 c1, .int .i64 f1, v3]), (g4, 59, #[.int .i64 0, .int .i64 0, .int .i64 0, .int .i64 0, .slice none 0 0, .int .i64 0, .int .i64 0, .int .i64 0, .int .i64 0, .slice none 0 0, .int .i64 0, .int .i64 0, .int .i64 0, .int .i64 0, .slice none 0 0, .int .i64 0, .int .i64 0, .int .i64 0, .int .i64 0, .slice none 0 0]), (g3, 28, #[.int .i64 kk]), (g2, 26, #[.int .i64 x0, .int .i64 y0, .int .i64 x1, .int .i64 y1, .slice A D.length c])])[2]? = some (g7, 23, #[.int .i64 x0, .int .i64 y0, .int .i64 x1, .int .i64 y1]) := rfl
          have PF3 : (#[.int .i64 x0, .int .i64 y0, .int .i64 x1, .int .i64 y1] : Array Value)[1]? = some (.int .i64 y0) := rfl
          have PF4 : ([(g9, 78, #[.int .i64 a0, .int .i64 y0, .int .i64 c0, .int .i64 y1, .slice A0 P.length d0, .int .i64 a1, .int .i64 y0, .int .i64 c1, .int .i64 y1, .slice A1 Q.length d1]), (g8, 62, #[.int .i64 a0, .int .i64 e0, .int .i64 c0, .int .i64 f0, .int .i64 a1, .int .i64 e0, .int .i64 c1, .int .i64 f0, .int .i64 a0, .int .i64 e1, .int .i64 c0, .int .i64 f1, .int .i64 a1, .int .i64 e1, .int .i64 c1, .int .i64 f1]), (g7, 23, #[.int .i64 x0, .int .i64 y0, .int .i64 x1, .int .i64 y1]), (g6, 59, #[.int .i64 a0, .int .i64 e0, .int .i64 c0, .int .i64 f0, v0, .int .i64 a1, .int .i64 e0, .int .i64 c1, .int .i64 f0, v1, .int .i64 a0, .int .i64 e1, .int .i64 c0, .int .i64 f1, v2, .int .i64 a1, .int .i64 e1, .int .i64 c1, .int .i64 f1, v3]), (g4, 59, #[.int .i64 0, .int .i64 0, .int .i64 0, .int .i64 0, .slice none 0 0, .int .i64 0, .int .i64 0, .int .i64 0, .int .i64 0, .slice none 0 0, .int .i64 0, .int .i64 0, .int .i64 0, .int .i64 0, .slice none 0 0, .int .i64 0, .int .i64 0, .int .i64 0, .int .i64 0, .slice none 0 0]), (g3, 28, #[.int .i64 kk]), (g2, 26, #[.int .i64 x0, .int .i64 y0, .int .i64 x1, .int .i64 y1, .slice A D.length c])])[5]? = some (g3, 28, #[.int .i64 kk]) := rfl
          have PF5 : ([(g9, 78, #[.int .i64 a0, .int .i64 y0, .int .i64 c0, .int .i64 y1, .slice A0 P.length d0, .int .i64 a1, .int .i64 y0, .int .i64 c1, .int .i64 y1, .slice A1 Q.length d1]), (g8, 62, #[.int .i64 a0, .int .i64 e0, .int .i64 c0, .int .i64 f0, .int .i64 a1, .int .i64 e0, .int .i64 c1, .int .i64 f0, .int .i64 a0, .int .i64 e1, .int .i64 c0, .int .i64 f1, .int .i64 a1, .int .i64 e1, .int .i64 c1, .int .i64 f1]), (g7, 23, #[.int .i64 x0, .int .i64 y0, .int .i64 x1, .int .i64 y1]), (g6, 59, #[.int .i64 a0, .int .i64 e0, .int .i64 c0, .int .i64 f0, v0, .int .i64 a1, .int .i64 e0, .int .i64 c1, .int .i64 f0, v1, .int .i64 a0, .int .i64 e1, .int .i64 c0, .int .i64 f1, v2, .int .i64 a1, .int .i64 e1, .int .i64 c1, .int .i64 f1, v3]), (g4, 59, #[.int .i64 0, .int .i64 0, .int .i64 0, .int .i64 0, .slice none 0 0, .int .i64 0, .int .i64 0, .int .i64 0, .int .i64 0, .slice none 0 0, .int .i64 0, .int .i64 0, .int .i64 0, .int .i64 0, .slice none 0 0, .int .i64 0, .int .i64 0, .int .i64 0, .int .i64 0, .slice none 0 0]), (g3, 28, #[.int .i64 kk]), (g2, 26, #[.int .i64 x0, .int .i64 y0, .int .i64 x1, .int .i64 y1, .slice A D.length c])])[3]? = some (g6, 59, #[.int .i64 a0, .int .i64 e0, .int .i64 c0, .int .i64 f0, v0, .int .i64 a1, .int .i64 e0, .int .i64 c1, .int .i64 f0, v1, .int .i64 a0, .int .i64 e1, .int .i64 c0, .int .i64 f1, v2, .int .i64 a1, .int .i64 e1, .int .i64 c1, .int .i64 f1, v3]) := rfl
          have PF6_1 : (#[.int .i64 a0, .int .i64 e0, .int .i64 c0, .int .i64 f0, v0, .int .i64 a1, .int .i64 e0, .int .i64 c1, .int .i64 f0, v1, .int .i64 a0, .int .i64 e1, .int .i64 c0, .int .i64 f1, v2, .int .i64 a1, .int .i64 e1, .int .i64 c1, .int .i64 f1, v3] : Array Value)[5]? = some (.int .i64 a1) ∧ (#[.int .i64 a0, .int .i64 e0, .int .i64 c0, .int .i64 f0, v0, .int .i64 a1, .int .i64 e0, .int .i64 c1, .int .i64 f0, v1, .int .i64 a0, .int .i64 e1, .int .i64 c0, .int .i64 f1, v2, .int .i64 a1, .int .i64 e1, .int .i64 c1, .int .i64 f1, v3] : Array Value)[5+2]? = some (.int .i64 c1) ∧ (#[.int .i64 a0, .int .i64 e0, .int .i64 c0, .int .i64 f0, v0, .int .i64 a1, .int .i64 e0, .int .i64 c1, .int .i64 f0, v1, .int .i64 a0, .int .i64 e1, .int .i64 c0, .int .i64 f1, v2, .int .i64 a1, .int .i64 e1, .int .i64 c1, .int .i64 f1, v3] : Array Value)[5+4]? = some v1 := ⟨rfl, rfl, rfl⟩
          have PF7_1 : (#[.int .i64 a0, .int .i64 e0, .int .i64 c0, .int .i64 f0, v0, .int .i64 a1, .int .i64 e0, .int .i64 c1, .int .i64 f0, v1, .int .i64 a0, .int .i64 e1, .int .i64 c0, .int .i64 f1, v2, .int .i64 a1, .int .i64 e1, .int .i64 c1, .int .i64 f1, v3] : Array Value)[15]? = some (.int .i64 a1) ∧ (#[.int .i64 a0, .int .i64 e0, .int .i64 c0, .int .i64 f0, v0, .int .i64 a1, .int .i64 e0, .int .i64 c1, .int .i64 f0, v1, .int .i64 a0, .int .i64 e1, .int .i64 c0, .int .i64 f1, v2, .int .i64 a1, .int .i64 e1, .int .i64 c1, .int .i64 f1, v3] : Array Value)[15+2]? = some (.int .i64 c1) ∧ (#[.int .i64 a0, .int .i64 e0, .int .i64 c0, .int .i64 f0, v0, .int .i64 a1, .int .i64 e0, .int .i64 c1, .int .i64 f0, v1, .int .i64 a0, .int .i64 e1, .int .i64 c0, .int .i64 f1, v2, .int .i64 a1, .int .i64 e1, .int .i64 c1, .int .i64 f1, v3] : Array Value)[15+4]? = some v3 := ⟨rfl, rfl, rfl⟩
          have PR0_1 : ([(v3, Z3), (v2, G2), (v1, Z1), (v0, G0), (.slice A0 P.length d0, P), (.slice A1 Q.length d1, Q)])[5]? = some (.slice A1 Q.length d1, Q) := rfl
          have PR1_1 : ([(v3, Z3), (v2, G2), (v1, Z1), (v0, G0), (.slice A0 P.length d0, P), (.slice A1 Q.length d1, Q)])[2]? = some (v1, Z1) := rfl
          have PR2_1 : ([(v3, Z3), (v2, G2), (v1, Z1), (v0, G0), (.slice A0 P.length d0, P), (.slice A1 Q.length d1, Q)])[0]? = some (v3, Z3) := rfl
          have PJ_1 : 2 ≠ 5 ∧ 0 ≠ 5 ∧ 2 ≠ 0 := by decide
          go_wp2_with (first
            | (go_at_call 61; (with_reducible refine (dwt_Split1_1.good k ks kk a1 y0 c1 y1 A1 d1 Q Z1 Z3 G1 G3 v1 v3 w.heap.size w _ _ _ 0 2 5 3 g9 g7 g3 g6 5 2 0 #[.int .i64 a0, .int .i64 y0, .int .i64 c0, .int .i64 y1, .slice A0 P.length d0, .int .i64 a1, .int .i64 y0, .int .i64 c1, .int .i64 y1, .slice A1 Q.length d1] #[.int .i64 x0, .int .i64 y0, .int .i64 x1, .int .i64 y1] #[.int .i64 a0, .int .i64 e0, .int .i64 c0, .int .i64 f0, v0, .int .i64 a1, .int .i64 e0, .int .i64 c1, .int .i64 f0, v1, .int .i64 a0, .int .i64 e1, .int .i64 c0, .int .i64 f1, v2, .int .i64 a1, .int .i64 e1, .int .i64 c1, .int .i64 f1, v3] K.out rfl PF0 PF1_1 PF2 PF3 PF4 PF5 PF6_1 PF7_1 PR0_1 PR1_1 PR2_1 PJ_1 HV1.out HKK.out.1 HKK.out.2 HS1.out).mono ?_); rintro _ w61 ⟨rfl, hH⟩; clear K; have K := Aside0.mk hH; clear hH))
          go_roundg (0)
          case measure => omega
          case rel => exact ⟨2, rfl, by omega, .inr (.inr ⟨rfl, ⟨K.out⟩⟩)⟩
        · have hb0 : decide (((2 : Nat) : Int) < 2) = false := rfl
          obtain ⟨B0, b0, rfl⟩ := Kd.R_slice (K.out.rowAt 3 rfl)
          obtain ⟨B1, b1, rfl⟩ := Kd.R_slice (K.out.rowAt 2 rfl)
          obtain ⟨B2, b2, rfl⟩ := Kd.R_slice (K.out.rowAt 1 rfl)
          obtain ⟨B3, b3, rfl⟩ := Kd.R_slice (K.out.rowAt 0 rfl)
          go_wp2_with (first
            | ((with_reducible refine gate_dst (N := 120) rfl ?_); refine load_all_ev rfl 59 (.tmp 6) rfl rfl (K.out.get 3 rfl) Try.underlying59 rfl rfl ?_)
            | ((with_reducible refine gate_store (t := 59) (p := 4) (v := .tmp 120) rfl ?_); refine store_ev rfl rfl 59 (.tmp 4) (.tmp 120) rfl rfl rfl (K.out.get 4 rfl) rfl rfl (by kernel_rfl) ?_; intro W8 hs; have K' := Aside0.mk (K.out.stored 4 rfl hs); clear K; have K := K'; clear K'; clear hs))
          refine bodyPost_ret (results_ct rfl _ _ g4 59 _ (0, 0) _ rfl (K.out.get 4 rfl) Try.underlying59 rfl (by kernel_rfl)) rfl ?_
          exact ⟨_, _, _, _, rfl, (K.out.noBlk).pick [3, 2, 1, 0] (by decide) rfl⟩
end Go.Proofs.Ytcnpekpgghppnaa.Q

namespace Go.Proofs.Ytcnpekpgghppnaa.Q
open Go.RowKit Go.Proofs.YtcnpekpgghppnaaW.PrintWords Go.Proofs.YtcnpekpgghppnaaW.PrintLast Go.Proofs.YtcnpekpgghppnaaW.PrintMore
attribute [local go_sem] max2_int min2_int max_two min_two max_three min_three max_four min_four   -- for this text's walks alone
set_option linter.unusedVariables false
set_option linter.unusedSimpArgs false

theorem eqA23 (d : Nat) (w : World) (x0 y0 : Int) (x1 y1 : Int) (x2 y2 : Int) (x3 y3 : Int) :
    (Op.equalIn (d + 2) 23 (.agg #[.int .i64 x0, .int .i64 x1, .int .i64 x2, .int .i64 x3]) (.agg #[.int .i64 y0, .int .i64 y1, .int .i64 y2, .int .i64 y3])).run Try.prog w = .ok (x0 == y0 && (x1 == y1 && (x2 == y2 && (x3 == y3)))) w := by
  refine eqA_of Try.underlying23 (by kernel_rfl) ?_
  refine eqf_cons (by rfl) (by go_simp; rfl) (by go_simp; rfl) (by go_simp) ?_
  refine eqf_cons (by rfl) (by go_simp; rfl) (by go_simp; rfl) (by go_simp) ?_
  refine eqf_cons (by rfl) (by go_simp; rfl) (by go_simp; rfl) (by go_simp) ?_
  exact eqf_last (by rfl) (by go_simp; rfl) (by go_simp; rfl) (by go_simp)
end Go.Proofs.Ytcnpekpgghppnaa.Q
