-- By a program of this session (wip/tools/mk.py), out of the kit's print of the translation; Lean checks it.
import Derived.Test.YthemchggmlpdhaaShort
import Derived.Test.YthemchggmlpdhaaUp2
import Derived.Test.YthemchggmlpdhaaUp
import Derived.Test.YthemchggmlpdhaaQ0
namespace Go.Proofs.Ythemchggmlpdhaa.Q
open Go.RowKit Go.Proofs.YthemchggmlpdhaaW.PrintWords Go.Proofs.YthemchggmlpdhaaW.PrintLast Go.Proofs.YthemchggmlpdhaaW.PrintMore
attribute [local go_sem] max2_int min2_int max_two min_two max_three min_three max_four min_four   -- for this text's walks alone
set_option linter.unusedVariables false
set_option linter.unusedSimpArgs false

/-! ### waveletlaw02_of: function 41 -/
def waveletlaw02_of.f (a0 : Int) (a1 : Int) (a2 : Int) (a3 : Int) (l4 : List Int) : Option (Int × Int × Int × Int × List Int) := some (a0, a1, a2, a3, l4)
set_option maxHeartbeats 8000000 in
set_option maxRecDepth 100000 in
theorem waveletlaw02_of.calls (a0 : Int) (a1 : Int) (a2 : Int) (a3 : Int) (P4_ : Nat → Prop) (u9000_ : Value) (l4 : List Int) (r1 : Int) (r2 : Int) (r3 : Int) (r4 : Int) (r5 : List Int) (w0 w : World) (hB : Below w0.heap.size w0 w) (ho4 : Kd.R (Kd.int .i64) 3 w w0.heap.size P4_ u9000_ l4) (h : waveletlaw02_of.f a0 a1 a2 a3 l4 = some (r1, r2, r3, r4, r5)) :
  Calls Try.prog 41 #[.int .i64 a0, .int .i64 a1, .int .i64 a2, .int .i64 a3, u9000_] w fun e w' => ∃ v4_ : Value, e = .returned (.agg #[.int .i64 r1, .int .i64 r2, .int .i64 r3, .int .i64 r4, v4_]) ∧ Kd.R (Kd.int .i64) 3 w' w0.heap.size (fun k_ => (P4_ k_ ∨ w.heap.size ≤ k_)) v4_ r5 ∧ Below w0.heap.size w0 w' ∧ Kept w w' (fun k_ => P4_ k_) := by
 have hu26 := Try.underlying26
 have hu23 := Try.underlying23
 have HO4 := AS (show Kd.R (Kd.int .i64) 3 w w0.heap.size (fun k_ => (P4_ k_ ∨ w.heap.size ≤ k_)) u9000_ l4 from Kd.R_mono ho4 (fun k_ hk => (.inl hk)))
 have HK := AS (Kept.refl w (fun k_ => P4_ k_))
 have HW0 := AS hB.size
 have HB := AS hB
 clear hB
 have H : (some (a0, a1, a2, a3, l4)) = some (r1, r2, r3, r4, r5) := h
 clear h
 simp only [Option.some.injEq, Prod.mk.injEq] at H
 obtain ⟨rfl, rfl, rfl, rfl, rfl⟩ := H
 go_enter Try.func41, Try.ntmps41
 go_wp2_with (first | ((with_reducible refine gate_dst (N := 10) rfl ?_); refine box_event ?hg (N := 10) ?hd (cs := #[.int .i64 0, .int .i64 0, .int .i64 0, .int .i64 0, .slice none 0 0]) (t := 26) ?hr ?_; (case hd => rfl); (case hg => rfl); (case hr => first | (go_simp; done) | (go_simp; rfl)); intro gb219 hg w6 hbox hb; replace HO4 := AS (Kd.R_below (upR HO4.out) hb); have BK219 := AS (hbox); have GW219 := AS ((by rw [hg]; exact (by first | exact HK.out.1 | exact (show Kept w _ (fun k_ => P4_ k_) from by repeat (first | (with_reducible first | exact HK.out | apply Kept.alloc | apply Kept.drewN | apply Kept.drew) | exact HK.out)).1) : w.heap.size ≤ gb219)); replace HK := AS (Kept.below (S := (fun k_ => P4_ k_)) (by repeat (first | (with_reducible first | exact HK.out | apply Kept.alloc | apply Kept.drewN | apply Kept.drew) | exact HK.out)) hb); have GE219 := AS ((by rw [hg]; exact (below_size (upB HB.out)) : w0.heap.size ≤ gb219)); replace HB := AS (below_step (upB HB.out) hb); clear hb hbox hg; obtain ⟨Ao7, co7, eo7⟩ := Kd.R_slice HO4.out; subst eo7; have hcz8_0 : w6.cell? ⟨gb219, 0, none⟩ = some (.int .i64 0) := bc BK219 0; have hcz8_1 : w6.cell? ⟨gb219, 1, none⟩ = some (.int .i64 0) := bc BK219 1; have hcz8_2 : w6.cell? ⟨gb219, 2, none⟩ = some (.int .i64 0) := bc BK219 2; have hcz8_3 : w6.cell? ⟨gb219, 3, none⟩ = some (.int .i64 0) := bc BK219 3; have hcz8_4 : w6.cell? ⟨gb219, 4, none⟩ = some (.slice none 0 0) := bc BK219 4; have hfz8_0 := blk_frozen BK219.out 0; have hfz8_1 := blk_frozen BK219.out 1; have hfz8_2 := blk_frozen BK219.out 2; have hfz8_3 := blk_frozen BK219.out 3; have hfz8_4 := blk_frozen BK219.out 4))
 refine bodyPost_ret (results_cell_row rfl _ _ gb219 26 #[.int .i64 a0, .int .i64 a1, .int .i64 a2, .int .i64 a3, .slice Ao7 l4.length co7] (0, 0) _ rfl (by (with_reducible repeat (first | refine blk_drewN ?_ _ | refine blk_drew ?_ | refine blk_alloc ?_ _)); refine blk_put (cs := #[.int .i64 a0, .int .i64 a1, .int .i64 a2, .int .i64 a3, .slice none 0 0]) ?_ 4 _ rfl; (with_reducible repeat (first | refine blk_drewN ?_ _ | refine blk_drew ?_ | refine blk_alloc ?_ _)); refine blk_put (cs := #[.int .i64 a0, .int .i64 a1, .int .i64 a2, .int .i64 0, .slice none 0 0]) ?_ 3 _ rfl; (with_reducible repeat (first | refine blk_drewN ?_ _ | refine blk_drew ?_ | refine blk_alloc ?_ _)); refine blk_put (cs := #[.int .i64 a0, .int .i64 a1, .int .i64 0, .int .i64 0, .slice none 0 0]) ?_ 2 _ rfl; (with_reducible repeat (first | refine blk_drewN ?_ _ | refine blk_drew ?_ | refine blk_alloc ?_ _)); refine blk_put (cs := #[.int .i64 a0, .int .i64 0, .int .i64 0, .int .i64 0, .slice none 0 0]) ?_ 1 _ rfl; (with_reducible repeat (first | refine blk_drewN ?_ _ | refine blk_drew ?_ | refine blk_alloc ?_ _)); refine blk_put (cs := #[.int .i64 0, .int .i64 0, .int .i64 0, .int .i64 0, .slice none 0 0]) ?_ 0 _ rfl; (with_reducible repeat (first | refine blk_drewN ?_ _ | refine blk_drew ?_ | refine blk_alloc ?_ _)); exact BK219.out) Try.underlying26 rfl (by kernel_rfl)) rfl ?_
 exact ⟨_, by first | rfl | (simp [errW_none, errW_some] <;> rfl) | (simp [*, errW_none, errW_some] <;> rfl), by (with_reducible repeat (first | apply Kd.R_alloc | apply Kd.R_drewN | apply Kd.R_drew)); exact Kd.R_mono (Kd.R_far (Kd.R_far (Kd.R_far (Kd.R_far (Kd.R_far (Kd.R_types HO4.out BK219.out (by decide)) (fun _ hk => hk.2) _) (fun _ hk => hk.2) _) (fun _ hk => hk.2) _) (fun _ hk => hk.2) _) (fun _ hk => hk.2) _) (fun _ hk => hk.1), by repeat (first | (with_reducible first | exact HB.out | apply below_alloc | apply pw_below_drewN | apply below_drew1 | refine below_set ?_ GE219.out) | exact HB.out), by repeat (first | (with_reducible first | exact HK.out | apply Kept.alloc | apply Kept.drewN | apply Kept.drew | refine Kept.setCell ?_ (.inr GW219.out) _) | exact HK.out)⟩

end Go.Proofs.Ythemchggmlpdhaa.Q
