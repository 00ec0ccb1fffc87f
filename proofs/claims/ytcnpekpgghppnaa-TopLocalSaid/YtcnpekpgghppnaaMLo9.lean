/- Texts of this session (words and printed walks, merged by wip/tools/merge.py) for the statement of the claim. -/
import Derived.Test.YtcnpekpgghppnaaMLo1
import Derived.Test.YtcnpekpgghppnaaMLo8
import Derived.Test.YtcnpekpgghppnaaMLo6
import Derived.Test.YtcnpekpgghppnaaMLo4
namespace Go.Proofs.Ytcnpekpgghppnaa.Q
open Go.RowKit Go.Proofs.YtcnpekpgghppnaaW.PrintWords Go.Proofs.YtcnpekpgghppnaaW.PrintLast Go.Proofs.YtcnpekpgghppnaaW.PrintMore
set_option linter.unusedVariables false
set_option linter.unusedSimpArgs false
set_option maxHeartbeats 8000000 in
set_option maxRecDepth 100000 in
theorem pyramid_Need.no_ (km kr n res : Nat) (kk mg x0 y0 x1 y1 z0 z1 z2 z3 : Int) (R win e : Nat → Rt) (w : World)
  (hrv : rect_Valid.f x0 y0 x1 y1 = some true) (hnn : res ≤ n ∧ n ≤ 5) (hm : lift_Margin.f km kk = some mg) (hmg : mg ≠ 0) (hrs : ∀ q, q ≤ res → pyramid_Resolution.f kr x0 y0 x1 y1 (n : Int) ((q : Nat) : Int) = some (R q)) (hw : rect_Intersect.f z0 z1 z2 z3 (R res).1 (R res).2.1 (R res).2.2.1 (R res).2.2.2 = some (win res)) (hne : rect_Empty.f (win res).1 (win res).2.1 (win res).2.2.1 (win res).2.2.2 = some true) :
  Calls Try.prog 10 #[.agg #[.int .i64 x0, .int .i64 y0, .int .i64 x1, .int .i64 y1], .int .i64 (n : Int), .int .i64 (res : Int), .agg #[.int .i64 z0, .int .i64 z1, .int .i64 z2, .int .i64 z3], .int .i64 kk] w fun e' w' => ∃ g : Nat, e' = .returned (.slice (some ⟨g, 0, none⟩) (3 * n + 1) (3 * n + 1)) ∧ w'.heap[g]? = some (.cells (cellsR (List.replicate (3 * n + 1) (0, 0, 0, 0))) 23 (0, 0)) ∧ Below w.heap.size w w' := by
 have HRV := Aside0.mk hrv
 have HNN := Aside0.mk hnn
 have HM := Aside0.mk hm
 have HMG := Aside0.mk hmg
 have HRS := Aside0.mk hrs
 have HW := Aside0.mk hw
 have HNE := Aside0.mk hne
 obtain ⟨m, hm3⟩ : ∃ m : Nat, m = 3 * n + 1 := ⟨_, rfl⟩
 have HVL := Aside0.mk (show pyramid_validLevels.f (n : Int) = some true by unfold pyramid_validLevels.f; rw [if_pos (by omega), decide_eq_true (by omega)])
 have HCT := Aside0.mk (show pyramid_Count.f (n : Int) = some (m : Int) by unfold pyramid_Count.f; rw [HVL.out]; show some (wrap64 (wrap64 (3 * (n : Int)) + 1)) = some (m : Int); rw [show wrap64 (wrap64 (3 * (n : Int)) + 1) = (m : Int) by unfold wrap64; omega])
 have HMM := Aside0.mk (And.intro hm3 (show m ≤ 16 by omega))
 have b0 : decide (mg = 0) = false := decide_eq_false hmg
 have b1 : (mg == 0) = false := beq_eq_false_iff_ne.mpr hmg
 have b2 : decide ((res : Int) < 0) = false := decide_eq_false (by omega)
 have b3 : decide ((n : Int) < (res : Int)) = false := decide_eq_false (by omega)
 have b3' : decide (n < res) = false := decide_eq_false (by omega)
 clear hm3
 clear hrv hnn hm hmg hrs hw hne
 have K00 := Aside0.mk (Hold.nil w)
 go_enter Try.func10, Try.ntmps10
 go_upto_region 5 with (first
  | ((with_reducible refine gate_dst (N := 5) rfl ?_); refine bT (N := 5) (#[.int .i64 x0, .int .i64 y0, .int .i64 x1, .int .i64 y1]) 23 ?_; intro g5 hg W5 hbox hb; have K1 := Aside0.mk (K00.out.box (Nat.le_refl _) hg hbox hb trivial); clear hg hbox hb K00)
  | ((with_reducible refine gate_dst (N := 8) rfl ?_); refine bT (N := 8) (#[.int .i64 z0, .int .i64 z1, .int .i64 z2, .int .i64 z3]) 23 ?_; intro g8 hg W8 hbox hb; have K := Aside0.mk (K1.out.box (below_size K1.out.below) hg hbox hb trivial); clear hg hbox hb K1)
  | (go_at_call 26; (with_reducible refine (lift_Margin.calls km kk mg _ HM.out).mono ?_); rintro _ w26 ⟨rfl, b⟩; replace K := Aside0.mk (K.out.call (below_size K.out.below) b.below); clear b)
  | ((with_reducible refine gate_dst (N := 19) rfl ?_); refine load_ev rfl 23 (.tmp 5) rfl rfl (K.out.get 1 rfl) Try.underlying23 rfl ?_)
  | (go_at_call 31; (with_reducible refine (rect_Valid.calls x0 y0 x1 y1 true _ HRV.out).mono ?_); rintro _ w31 ⟨rfl, b⟩; replace K := Aside0.mk (K.out.call (below_size K.out.below) b); clear b)
  | ((try (refine gate_guard (by rfl) ?_; dsimp only)); go_at_call 27; (with_reducible refine (pyramid_validLevels.calls (n : Int) true _ HVL.out).mono ?_); rintro _ w27 ⟨rfl, b⟩; replace K := Aside0.mk (K.out.call (below_size K.out.below) b.below); clear b)
  | (go_at_call 29; (with_reducible refine (pyramid_Count.calls (n : Int) (m : Int) _ HCT.out).mono ?_); rintro _ w29 ⟨rfl, b⟩; replace K := Aside0.mk (K.out.call (below_size K.out.below) b.below); clear b)
  | ((with_reducible refine gate_dst (N := 42) rfl ?_); refine make_rects_ev rfl (N := 42) rfl (.tmp 41) (.tmp 41) rfl m rfl rfl (by have := HMM.out; omega) ?_; intro gO hg w42 hbox hb; replace K := Aside0.mk (K.out.box (below_size K.out.below) hg hbox hb trivial); clear hg hbox hb))
 clear b0 b1 b2 b3 b3' HVL HCT HRV HM
 go_cut [13] (fun v13 wc => ∃ g13 : Nat, v13 = .pointer (some ⟨g13, 0, none⟩) ∧ Aside0 (Hold w.heap.size w wc [(g13, 23, #[.int .i64 (win res).1, .int .i64 (win res).2.1, .int .i64 (win res).2.2.1, .int .i64 (win res).2.2.2]), (gO, 23, cellsR (List.replicate m (0, 0, 0, 0))), (g8, 23, #[.int .i64 z0, .int .i64 z1, .int .i64 z2, .int .i64 z3]), (g5, 23, #[.int .i64 x0, .int .i64 y0, .int .i64 x1, .int .i64 y1])] []))
 case first =>
  replace K := Aside0.mk (K.out.drew)
  refine start_ (n := 8) (S := fun w' => w'.heap[g8]? = some (.cells #[.int .i64 z0, .int .i64 z1, .int .i64 z2, .int .i64 z3] 23 (0, 0)) ∧ w'.heap[g5]? = some (.cells #[.int .i64 x0, .int .i64 y0, .int .i64 x1, .int .i64 y1] 23 (0, 0))) (ds := [7]) #[false, false, false, false, false, false, false, false] (by kernel_rfl) rfl rfl ⟨K.out.get 1 rfl, K.out.get 2 rfl⟩ (fun hHeld0 => ?_)
  generalize hw2 : w42.drew = w2 at *
  clear hw2
  have hHeld := Aside0.mk hHeld0
  clear hHeld0
  refine take_ (i := 0) (N := some 43) (v := .agg #[.int .i64 z0, .int .i64 z1, .int .i64 z2, .int .i64 z3]) (a' := ?_) #[true, false, false, false, false, false, false, false] rfl rfl (by kernel_rfl) (fun _ _ _ h => h) (load_all_yields (by rfl) 23 (.tmp 8) rfl rfl (fun _ h => h.1) Try.underlying23 rfl rfl) hHeld.out ?_ ?_
  rotate_left
  ·simp only [Act.put, List.setIfInBounds_toArray, List.set_cons_zero, List.set_cons_succ, i64_w, i32_w]
   rfl
  refine take_ (i := 1) (N := some 44) (v := .agg #[.int .i64 x0, .int .i64 y0, .int .i64 x1, .int .i64 y1]) (a' := ?_) #[true, true, false, false, false, false, false, false] rfl rfl (by kernel_rfl) (fun _ _ _ h => h) (load_all_yields (by rfl) 23 (.tmp 5) rfl rfl (fun _ h => h.2) Try.underlying23 rfl rfl) hHeld.out ?_ ?_
  rotate_left
  ·simp only [Act.put, List.setIfInBounds_toArray, List.set_cons_zero, List.set_cons_succ, i64_w, i32_w]
   rfl
  refine pT (i := 2) (N := some 45) ?_
  refine pT (i := 3) (N := some 46) ?_
  refine two_ (i := 4) (j := 6) (Ni := some 47) (Nj := some 13) #[true, true, true, true, true, false, false, false] #[true, true, true, true, false, false, true, false] rfl rfl rfl rfl (by kernel_rfl) (by decide) (by decide) (fun KC hK => ?_) (fun KC hK => ?_)
  ·skip
   refine goes_ Try.func33 (by kernel_rfl) rfl #[.agg #[.int .i64 x0, .int .i64 y0, .int .i64 x1, .int .i64 y1], .int .i64 (n : Int), .int .i64 (res : Int)] (by rfl) rfl rfl (by simp only [List.map_toArray, List.map_cons, List.map_nil]; rfl) ?_
   refine (pyramid_Resolution.calls kr x0 y0 x1 y1 (n : Int) (res : Int) (R res).1 (R res).2.1 (R res).2.2.1 (R res).2.2.2 _ (HRS.out res (Nat.le_refl _))).mono ?_
   rintro _ w5_ ⟨rfl, bb⟩
   refine ⟨_, rfl, ?_⟩
   replace K := Aside0.mk (K.out.call (below_size K.out.below) bb)
   clear bb hHeld
   refine hK.out _ _ ⟨K.out.get 1 rfl, K.out.get 2 rfl⟩ (fun hHeld0 => ?_)
   have hHeld := Aside0.mk hHeld0
   clear hHeld0
   clear hK KC
   refine nT ?_
   refine two_ (i := 5) (j := 6) (Ni := some 48) (Nj := some 13) #[true, true, true, true, true, true, false, false] #[true, true, true, true, true, false, true, false] rfl rfl rfl rfl (by kernel_rfl) (by decide) (by decide) (fun KC hK => ?_) (fun KC hK => ?_)
   ·skip
    refine goes_ Try.func32 (by kernel_rfl) rfl #[.agg #[.int .i64 z0, .int .i64 z1, .int .i64 z2, .int .i64 z3], .agg #[.int .i64 (R res).1, .int .i64 (R res).2.1, .int .i64 (R res).2.2.1, .int .i64 (R res).2.2.2]] (by rfl) rfl rfl (by simp only [List.map_toArray, List.map_cons, List.map_nil]; rfl) ?_
    refine (rect_Intersect.calls (z0) (z1) (z2) (z3) (R res).1 (R res).2.1 (R res).2.2.1 (R res).2.2.2 (win res).1 (win res).2.1 (win res).2.2.1 (win res).2.2.2 _ HW.out).mono ?_
    rintro _ w6_ ⟨rfl, bb⟩
    refine ⟨_, rfl, ?_⟩
    replace K := Aside0.mk (K.out.call (below_size K.out.below) bb)
    clear bb hHeld
    refine hK.out _ _ ⟨K.out.get 1 rfl, K.out.get 2 rfl⟩ (fun hHeld0 => ?_)
    have hHeld := Aside0.mk hHeld0
    clear hHeld0
    clear hK KC
    refine nT ?_
    refine one_ (i := 6) (N := some 13) #[true, true, true, true, true, true, true, false] rfl rfl (by kernel_rfl) (by decide) (fun KC hK => ?_)
    refine box_step ?hg (N := 13) ?hd (cs := #[.int .i64 0, .int .i64 0, .int .i64 0, .int .i64 0]) (t := 23) ?hr ?_
    case hd => rfl
    case hg => rfl
    case hr => first | (go_simp; done) | (go_simp; rfl)
    intro g13 hg w7_ hbox hb
    replace K := Aside0.mk (K.out.box (below_size K.out.below) hg hbox hb trivial)
    clear hg hbox hb hHeld
    refine hK.out _ _ ⟨K.out.get 2 rfl, K.out.get 3 rfl⟩ (fun hHeld0 => ?_)
    have hHeld := Aside0.mk hHeld0
    clear hHeld0
    clear hK KC
    refine nT ?_
    refine last_ (i := 7) (N := none) #[true, true, true, true, true, true, true, true] rfl rfl (by kernel_rfl) (by decide) (fun KC hK => ?_)
    refine store_step (cs := #[.int .i64 (win res).1, .int .i64 (win res).2.1, .int .i64 (win res).2.2.1, .int .i64 (win res).2.2.2]) (by rfl) rfl 23 (.tmp 13) (.tmp 48) rfl rfl (by kernel_rfl) (K.out.get 0 rfl) rfl rfl (by first | (kernel_rfl) | (simp [Value.oneCell'])) ?_
    intro WS hs
    refine hK.out _ _ ?_
    replace K := Aside0.mk (K.out.stored 0 rfl hs)
    clear hK KC hs hHeld
    refine done_ (by kernel_rfl) ?_
    go_wp2
    go_meet
    case rel => exact ⟨_, rfl, ⟨K.out⟩⟩
   ·skip
    refine box_step ?hg (N := 13) ?hd (cs := #[.int .i64 0, .int .i64 0, .int .i64 0, .int .i64 0]) (t := 23) ?hr ?_
    case hd => rfl
    case hg => rfl
    case hr => first | (go_simp; done) | (go_simp; rfl)
    intro g13 hg w7_ hbox hb
    replace K := Aside0.mk (K.out.box (below_size K.out.below) hg hbox hb trivial)
    clear hg hbox hb hHeld
    refine hK.out _ _ ⟨K.out.get 2 rfl, K.out.get 3 rfl⟩ (fun hHeld0 => ?_)
    have hHeld := Aside0.mk hHeld0
    clear hHeld0
    clear hK KC
    refine nT ?_
    refine one_ (i := 5) (N := some 48) #[true, true, true, true, true, true, true, false] rfl rfl (by kernel_rfl) (by decide) (fun KC hK => ?_)
    refine goes_ Try.func32 (by kernel_rfl) rfl #[.agg #[.int .i64 z0, .int .i64 z1, .int .i64 z2, .int .i64 z3], .agg #[.int .i64 (R res).1, .int .i64 (R res).2.1, .int .i64 (R res).2.2.1, .int .i64 (R res).2.2.2]] (by rfl) rfl rfl (by simp only [List.map_toArray, List.map_cons, List.map_nil]; rfl) ?_
    refine (rect_Intersect.calls (z0) (z1) (z2) (z3) (R res).1 (R res).2.1 (R res).2.2.1 (R res).2.2.2 (win res).1 (win res).2.1 (win res).2.2.1 (win res).2.2.2 _ HW.out).mono ?_
    rintro _ w6_ ⟨rfl, bb⟩
    refine ⟨_, rfl, ?_⟩
    replace K := Aside0.mk (K.out.call (below_size K.out.below) bb)
    clear bb hHeld
    refine hK.out _ _ ⟨K.out.get 2 rfl, K.out.get 3 rfl⟩ (fun hHeld0 => ?_)
    have hHeld := Aside0.mk hHeld0
    clear hHeld0
    clear hK KC
    refine nT ?_
    refine last_ (i := 7) (N := none) #[true, true, true, true, true, true, true, true] rfl rfl (by kernel_rfl) (by decide) (fun KC hK => ?_)
    refine store_step (cs := #[.int .i64 (win res).1, .int .i64 (win res).2.1, .int .i64 (win res).2.2.1, .int .i64 (win res).2.2.2]) (by rfl) rfl 23 (.tmp 13) (.tmp 48) rfl rfl (by kernel_rfl) (K.out.get 0 rfl) rfl rfl (by first | (kernel_rfl) | (simp [Value.oneCell'])) ?_
    intro WS hs
    refine hK.out _ _ ?_
    replace K := Aside0.mk (K.out.stored 0 rfl hs)
    clear hK KC hs hHeld
    refine done_ (by kernel_rfl) ?_
    go_wp2
    go_meet
    case rel => exact ⟨_, rfl, ⟨K.out⟩⟩
  ·skip
   refine box_step ?hg (N := 13) ?hd (cs := #[.int .i64 0, .int .i64 0, .int .i64 0, .int .i64 0]) (t := 23) ?hr ?_
   case hd => rfl
   case hg => rfl
   case hr => first | (go_simp; done) | (go_simp; rfl)
   intro g13 hg w7_ hbox hb
   replace K := Aside0.mk (K.out.box (below_size K.out.below) hg hbox hb trivial)
   clear hg hbox hb hHeld
   refine hK.out _ _ ⟨K.out.get 2 rfl, K.out.get 3 rfl⟩ (fun hHeld0 => ?_)
   have hHeld := Aside0.mk hHeld0
   clear hHeld0
   clear hK KC
   refine nT ?_
   refine one_ (i := 4) (N := some 47) #[true, true, true, true, true, false, true, false] rfl rfl (by kernel_rfl) (by decide) (fun KC hK => ?_)
   refine goes_ Try.func33 (by kernel_rfl) rfl #[.agg #[.int .i64 x0, .int .i64 y0, .int .i64 x1, .int .i64 y1], .int .i64 (n : Int), .int .i64 (res : Int)] (by rfl) rfl rfl (by simp only [List.map_toArray, List.map_cons, List.map_nil]; rfl) ?_
   refine (pyramid_Resolution.calls kr x0 y0 x1 y1 (n : Int) (res : Int) (R res).1 (R res).2.1 (R res).2.2.1 (R res).2.2.2 _ (HRS.out res (Nat.le_refl _))).mono ?_
   rintro _ w5_ ⟨rfl, bb⟩
   refine ⟨_, rfl, ?_⟩
   replace K := Aside0.mk (K.out.call (below_size K.out.below) bb)
   clear bb hHeld
   refine hK.out _ _ ⟨K.out.get 2 rfl, K.out.get 3 rfl⟩ (fun hHeld0 => ?_)
   have hHeld := Aside0.mk hHeld0
   clear hHeld0
   clear hK KC
   refine nT ?_
   refine one_ (i := 5) (N := some 48) #[true, true, true, true, true, true, true, false] rfl rfl (by kernel_rfl) (by decide) (fun KC hK => ?_)
   refine goes_ Try.func32 (by kernel_rfl) rfl #[.agg #[.int .i64 z0, .int .i64 z1, .int .i64 z2, .int .i64 z3], .agg #[.int .i64 (R res).1, .int .i64 (R res).2.1, .int .i64 (R res).2.2.1, .int .i64 (R res).2.2.2]] (by rfl) rfl rfl (by simp only [List.map_toArray, List.map_cons, List.map_nil]; rfl) ?_
   refine (rect_Intersect.calls (z0) (z1) (z2) (z3) (R res).1 (R res).2.1 (R res).2.2.1 (R res).2.2.2 (win res).1 (win res).2.1 (win res).2.2.1 (win res).2.2.2 _ HW.out).mono ?_
   rintro _ w6_ ⟨rfl, bb⟩
   refine ⟨_, rfl, ?_⟩
   replace K := Aside0.mk (K.out.call (below_size K.out.below) bb)
   clear bb hHeld
   refine hK.out _ _ ⟨K.out.get 2 rfl, K.out.get 3 rfl⟩ (fun hHeld0 => ?_)
   have hHeld := Aside0.mk hHeld0
   clear hHeld0
   clear hK KC
   refine nT ?_
   refine last_ (i := 7) (N := none) #[true, true, true, true, true, true, true, true] rfl rfl (by kernel_rfl) (by decide) (fun KC hK => ?_)
   refine store_step (cs := #[.int .i64 (win res).1, .int .i64 (win res).2.1, .int .i64 (win res).2.2.1, .int .i64 (win res).2.2.2]) (by rfl) rfl 23 (.tmp 13) (.tmp 48) rfl rfl (by kernel_rfl) (K.out.get 0 rfl) rfl rfl (by first | (kernel_rfl) | (simp [Value.oneCell'])) ?_
   intro WS hs
   refine hK.out _ _ ?_
   replace K := Aside0.mk (K.out.stored 0 rfl hs)
   clear hK KC hs hHeld
   refine done_ (by kernel_rfl) ?_
   go_wp2
   go_meet
   case rel => exact ⟨_, rfl, ⟨K.out⟩⟩
 case rest =>
 obtain ⟨g13, rfl, K⟩ := hcut
 go_wp2_with (first
  | ((with_reducible refine gate_dst (N := 49) rfl ?_); refine load_ev rfl 23 (.tmp 13) rfl rfl (K.out.get 0 rfl) Try.underlying23 rfl ?_)
  | (go_at_call 34; (with_reducible refine (rect_Empty.calls (win res).1 (win res).2.1 (win res).2.2.1 (win res).2.2.2 true _ HNE.out).mono ?_); rintro _ w34 ⟨rfl, b⟩; replace K := Aside0.mk (K.out.call (below_size K.out.below) b); clear b))
 go_ret
 exact ⟨gO, by rw [← HMM.out.1]; rfl, by rw [← HMM.out.1]; exact K.out.get 1 rfl, K.out.below⟩
set_option maxHeartbeats 8000000 in
set_option maxRecDepth 100000 in
theorem pyramid_Need.good (km kr n res : Nat) (kk mg x0 y0 x1 y1 z0 z1 z2 z3 : Int) (R win e : Nat → Rt) (w : World)
  (hrv : rect_Valid.f x0 y0 x1 y1 = some true) (hnn : res ≤ n ∧ n ≤ 5) (hm : lift_Margin.f km kk = some mg) (hmg : mg ≠ 0) (hrs : ∀ q, q ≤ res → pyramid_Resolution.f kr x0 y0 x1 y1 (n : Int) ((q : Nat) : Int) = some (R q)) (hw : rect_Intersect.f z0 z1 z2 z3 (R res).1 (R res).2.1 (R res).2.2.1 (R res).2.2.2 = some (win res)) (hne : rect_Empty.f (win res).1 (win res).2.1 (win res).2.2.1 (win res).2.2.2 = some false) (he : ∀ q, q < res → rect_Intersect.f (wrap64 ((win (q + 1)).1 - mg)) (wrap64 ((win (q + 1)).2.1 - mg)) (wrap64 ((win (q + 1)).2.2.1 + mg)) (wrap64 ((win (q + 1)).2.2.2 + mg)) (R (q + 1)).1 (R (q + 1)).2.1 (R (q + 1)).2.2.1 (R (q + 1)).2.2.2 = some (e (q + 1)) ∧ (0 ≤ (e (q + 1)).1 ∧ (e (q + 1)).1 ≤ (e (q + 1)).2.2.1 ∧ (e (q + 1)).2.2.1 ≤ 4096) ∧ (0 ≤ (e (q + 1)).2.1 ∧ (e (q + 1)).2.1 ≤ (e (q + 1)).2.2.2 ∧ (e (q + 1)).2.2.2 ≤ 4096) ∧ win q = bLL (e (q + 1))) :
  Calls Try.prog 10 #[.agg #[.int .i64 x0, .int .i64 y0, .int .i64 x1, .int .i64 y1], .int .i64 (n : Int), .int .i64 (res : Int), .agg #[.int .i64 z0, .int .i64 z1, .int .i64 z2, .int .i64 z3], .int .i64 kk] w fun e' w' => ∃ g : Nat, e' = .returned (.slice (some ⟨g, 0, none⟩) (3 * n + 1) (3 * n + 1)) ∧ w'.heap[g]? = some (.cells (cellsR ((needP n res 0 e).set 0 (win 0))) 23 (0, 0)) ∧ Below w.heap.size w w' := by
 have HRV := Aside0.mk hrv
 have HNN := Aside0.mk hnn
 have HM := Aside0.mk hm
 have HMG := Aside0.mk hmg
 have HRS := Aside0.mk hrs
 have HW := Aside0.mk hw
 have HNE := Aside0.mk hne
 have HE := Aside0.mk he
 obtain ⟨m, hm3⟩ : ∃ m : Nat, m = 3 * n + 1 := ⟨_, rfl⟩
 have HVL := Aside0.mk (show pyramid_validLevels.f (n : Int) = some true by unfold pyramid_validLevels.f; rw [if_pos (by omega), decide_eq_true (by omega)])
 have HCT := Aside0.mk (show pyramid_Count.f (n : Int) = some (m : Int) by unfold pyramid_Count.f; rw [HVL.out]; show some (wrap64 (wrap64 (3 * (n : Int)) + 1)) = some (m : Int); rw [show wrap64 (wrap64 (3 * (n : Int)) + 1) = (m : Int) by unfold wrap64; omega])
 have HMM := Aside0.mk (And.intro hm3 (show m ≤ 16 by omega))
 have b0 : decide (mg = 0) = false := decide_eq_false hmg
 have b1 : (mg == 0) = false := beq_eq_false_iff_ne.mpr hmg
 have b2 : decide ((res : Int) < 0) = false := decide_eq_false (by omega)
 have b3 : decide ((n : Int) < (res : Int)) = false := decide_eq_false (by omega)
 have b3' : decide (n < res) = false := decide_eq_false (by omega)
 clear hm3
 clear hrv hnn hm hmg hrs hw hne he
 have K00 := Aside0.mk (Hold.nil w)
 go_enter Try.func10, Try.ntmps10
 go_upto_region 5 with (first
  | ((with_reducible refine gate_dst (N := 5) rfl ?_); refine bT (N := 5) (#[.int .i64 x0, .int .i64 y0, .int .i64 x1, .int .i64 y1]) 23 ?_; intro g5 hg W5 hbox hb; have K1 := Aside0.mk (K00.out.box (Nat.le_refl _) hg hbox hb trivial); clear hg hbox hb K00)
  | ((with_reducible refine gate_dst (N := 8) rfl ?_); refine bT (N := 8) (#[.int .i64 z0, .int .i64 z1, .int .i64 z2, .int .i64 z3]) 23 ?_; intro g8 hg W8 hbox hb; have K := Aside0.mk (K1.out.box (below_size K1.out.below) hg hbox hb trivial); clear hg hbox hb K1)
  | (go_at_call 26; (with_reducible refine (lift_Margin.calls km kk mg _ HM.out).mono ?_); rintro _ w26 ⟨rfl, b⟩; replace K := Aside0.mk (K.out.call (below_size K.out.below) b.below); clear b)
  | ((with_reducible refine gate_dst (N := 19) rfl ?_); refine load_ev rfl 23 (.tmp 5) rfl rfl (K.out.get 1 rfl) Try.underlying23 rfl ?_)
  | (go_at_call 31; (with_reducible refine (rect_Valid.calls x0 y0 x1 y1 true _ HRV.out).mono ?_); rintro _ w31 ⟨rfl, b⟩; replace K := Aside0.mk (K.out.call (below_size K.out.below) b); clear b)
  | ((try (refine gate_guard (by rfl) ?_; dsimp only)); go_at_call 27; (with_reducible refine (pyramid_validLevels.calls (n : Int) true _ HVL.out).mono ?_); rintro _ w27 ⟨rfl, b⟩; replace K := Aside0.mk (K.out.call (below_size K.out.below) b.below); clear b)
  | (go_at_call 29; (with_reducible refine (pyramid_Count.calls (n : Int) (m : Int) _ HCT.out).mono ?_); rintro _ w29 ⟨rfl, b⟩; replace K := Aside0.mk (K.out.call (below_size K.out.below) b.below); clear b)
  | ((with_reducible refine gate_dst (N := 42) rfl ?_); refine make_rects_ev rfl (N := 42) rfl (.tmp 41) (.tmp 41) rfl m rfl rfl (by have := HMM.out; omega) ?_; intro gO hg w42 hbox hb; replace K := Aside0.mk (K.out.box (below_size K.out.below) hg hbox hb trivial); clear hg hbox hb))
 clear b0 b1 b2 b3 b3' HVL HCT HRV HM
 go_cut [13] (fun v13 wc => ∃ g13 : Nat, v13 = .pointer (some ⟨g13, 0, none⟩) ∧ Aside0 (Hold w.heap.size w wc [(g13, 23, #[.int .i64 (win res).1, .int .i64 (win res).2.1, .int .i64 (win res).2.2.1, .int .i64 (win res).2.2.2]), (gO, 23, cellsR (List.replicate m (0, 0, 0, 0))), (g8, 23, #[.int .i64 z0, .int .i64 z1, .int .i64 z2, .int .i64 z3]), (g5, 23, #[.int .i64 x0, .int .i64 y0, .int .i64 x1, .int .i64 y1])] []))
 case first =>
  replace K := Aside0.mk (K.out.drew)
  refine start_ (n := 8) (S := fun w' => w'.heap[g8]? = some (.cells #[.int .i64 z0, .int .i64 z1, .int .i64 z2, .int .i64 z3] 23 (0, 0)) ∧ w'.heap[g5]? = some (.cells #[.int .i64 x0, .int .i64 y0, .int .i64 x1, .int .i64 y1] 23 (0, 0))) (ds := [7]) #[false, false, false, false, false, false, false, false] (by kernel_rfl) rfl rfl ⟨K.out.get 1 rfl, K.out.get 2 rfl⟩ (fun hHeld0 => ?_)
  generalize hw2 : w42.drew = w2 at *
  clear hw2
  have hHeld := Aside0.mk hHeld0
  clear hHeld0
  refine take_ (i := 0) (N := some 43) (v := .agg #[.int .i64 z0, .int .i64 z1, .int .i64 z2, .int .i64 z3]) (a' := ?_) #[true, false, false, false, false, false, false, false] rfl rfl (by kernel_rfl) (fun _ _ _ h => h) (load_all_yields (by rfl) 23 (.tmp 8) rfl rfl (fun _ h => h.1) Try.underlying23 rfl rfl) hHeld.out ?_ ?_
  rotate_left
  ·simp only [Act.put, List.setIfInBounds_toArray, List.set_cons_zero, List.set_cons_succ, i64_w, i32_w]
   rfl
  refine take_ (i := 1) (N := some 44) (v := .agg #[.int .i64 x0, .int .i64 y0, .int .i64 x1, .int .i64 y1]) (a' := ?_) #[true, true, false, false, false, false, false, false] rfl rfl (by kernel_rfl) (fun _ _ _ h => h) (load_all_yields (by rfl) 23 (.tmp 5) rfl rfl (fun _ h => h.2) Try.underlying23 rfl rfl) hHeld.out ?_ ?_
  rotate_left
  ·simp only [Act.put, List.setIfInBounds_toArray, List.set_cons_zero, List.set_cons_succ, i64_w, i32_w]
   rfl
  refine pT (i := 2) (N := some 45) ?_
  refine pT (i := 3) (N := some 46) ?_
  refine two_ (i := 4) (j := 6) (Ni := some 47) (Nj := some 13) #[true, true, true, true, true, false, false, false] #[true, true, true, true, false, false, true, false] rfl rfl rfl rfl (by kernel_rfl) (by decide) (by decide) (fun KC hK => ?_) (fun KC hK => ?_)
  ·skip
   refine goes_ Try.func33 (by kernel_rfl) rfl #[.agg #[.int .i64 x0, .int .i64 y0, .int .i64 x1, .int .i64 y1], .int .i64 (n : Int), .int .i64 (res : Int)] (by rfl) rfl rfl (by simp only [List.map_toArray, List.map_cons, List.map_nil]; rfl) ?_
   refine (pyramid_Resolution.calls kr x0 y0 x1 y1 (n : Int) (res : Int) (R res).1 (R res).2.1 (R res).2.2.1 (R res).2.2.2 _ (HRS.out res (Nat.le_refl _))).mono ?_
   rintro _ w5_ ⟨rfl, bb⟩
   refine ⟨_, rfl, ?_⟩
   replace K := Aside0.mk (K.out.call (below_size K.out.below) bb)
   clear bb hHeld
   refine hK.out _ _ ⟨K.out.get 1 rfl, K.out.get 2 rfl⟩ (fun hHeld0 => ?_)
   have hHeld := Aside0.mk hHeld0
   clear hHeld0
   clear hK KC
   refine nT ?_
   refine two_ (i := 5) (j := 6) (Ni := some 48) (Nj := some 13) #[true, true, true, true, true, true, false, false] #[true, true, true, true, true, false, true, false] rfl rfl rfl rfl (by kernel_rfl) (by decide) (by decide) (fun KC hK => ?_) (fun KC hK => ?_)
   ·skip
    refine goes_ Try.func32 (by kernel_rfl) rfl #[.agg #[.int .i64 z0, .int .i64 z1, .int .i64 z2, .int .i64 z3], .agg #[.int .i64 (R res).1, .int .i64 (R res).2.1, .int .i64 (R res).2.2.1, .int .i64 (R res).2.2.2]] (by rfl) rfl rfl (by simp only [List.map_toArray, List.map_cons, List.map_nil]; rfl) ?_
    refine (rect_Intersect.calls (z0) (z1) (z2) (z3) (R res).1 (R res).2.1 (R res).2.2.1 (R res).2.2.2 (win res).1 (win res).2.1 (win res).2.2.1 (win res).2.2.2 _ HW.out).mono ?_
    rintro _ w6_ ⟨rfl, bb⟩
    refine ⟨_, rfl, ?_⟩
    replace K := Aside0.mk (K.out.call (below_size K.out.below) bb)
    clear bb hHeld
    refine hK.out _ _ ⟨K.out.get 1 rfl, K.out.get 2 rfl⟩ (fun hHeld0 => ?_)
    have hHeld := Aside0.mk hHeld0
    clear hHeld0
    clear hK KC
    refine nT ?_
    refine one_ (i := 6) (N := some 13) #[true, true, true, true, true, true, true, false] rfl rfl (by kernel_rfl) (by decide) (fun KC hK => ?_)
    refine box_step ?hg (N := 13) ?hd (cs := #[.int .i64 0, .int .i64 0, .int .i64 0, .int .i64 0]) (t := 23) ?hr ?_
    case hd => rfl
    case hg => rfl
    case hr => first | (go_simp; done) | (go_simp; rfl)
    intro g13 hg w7_ hbox hb
    replace K := Aside0.mk (K.out.box (below_size K.out.below) hg hbox hb trivial)
    clear hg hbox hb hHeld
    refine hK.out _ _ ⟨K.out.get 2 rfl, K.out.get 3 rfl⟩ (fun hHeld0 => ?_)
    have hHeld := Aside0.mk hHeld0
    clear hHeld0
    clear hK KC
    refine nT ?_
    refine last_ (i := 7) (N := none) #[true, true, true, true, true, true, true, true] rfl rfl (by kernel_rfl) (by decide) (fun KC hK => ?_)
    refine store_step (cs := #[.int .i64 (win res).1, .int .i64 (win res).2.1, .int .i64 (win res).2.2.1, .int .i64 (win res).2.2.2]) (by rfl) rfl 23 (.tmp 13) (.tmp 48) rfl rfl (by kernel_rfl) (K.out.get 0 rfl) rfl rfl (by first | (kernel_rfl) | (simp [Value.oneCell'])) ?_
    intro WS hs
    refine hK.out _ _ ?_
    replace K := Aside0.mk (K.out.stored 0 rfl hs)
    clear hK KC hs hHeld
    refine done_ (by kernel_rfl) ?_
    go_wp2
    go_meet
    case rel => exact ⟨_, rfl, ⟨K.out⟩⟩
   ·skip
    refine box_step ?hg (N := 13) ?hd (cs := #[.int .i64 0, .int .i64 0, .int .i64 0, .int .i64 0]) (t := 23) ?hr ?_
    case hd => rfl
    case hg => rfl
    case hr => first | (go_simp; done) | (go_simp; rfl)
    intro g13 hg w7_ hbox hb
    replace K := Aside0.mk (K.out.box (below_size K.out.below) hg hbox hb trivial)
    clear hg hbox hb hHeld
    refine hK.out _ _ ⟨K.out.get 2 rfl, K.out.get 3 rfl⟩ (fun hHeld0 => ?_)
    have hHeld := Aside0.mk hHeld0
    clear hHeld0
    clear hK KC
    refine nT ?_
    refine one_ (i := 5) (N := some 48) #[true, true, true, true, true, true, true, false] rfl rfl (by kernel_rfl) (by decide) (fun KC hK => ?_)
    refine goes_ Try.func32 (by kernel_rfl) rfl #[.agg #[.int .i64 z0, .int .i64 z1, .int .i64 z2, .int .i64 z3], .agg #[.int .i64 (R res).1, .int .i64 (R res).2.1, .int .i64 (R res).2.2.1, .int .i64 (R res).2.2.2]] (by rfl) rfl rfl (by simp only [List.map_toArray, List.map_cons, List.map_nil]; rfl) ?_
    refine (rect_Intersect.calls (z0) (z1) (z2) (z3) (R res).1 (R res).2.1 (R res).2.2.1 (R res).2.2.2 (win res).1 (win res).2.1 (win res).2.2.1 (win res).2.2.2 _ HW.out).mono ?_
    rintro _ w6_ ⟨rfl, bb⟩
    refine ⟨_, rfl, ?_⟩
    replace K := Aside0.mk (K.out.call (below_size K.out.below) bb)
    clear bb hHeld
    refine hK.out _ _ ⟨K.out.get 2 rfl, K.out.get 3 rfl⟩ (fun hHeld0 => ?_)
    have hHeld := Aside0.mk hHeld0
    clear hHeld0
    clear hK KC
    refine nT ?_
    refine last_ (i := 7) (N := none) #[true, true, true, true, true, true, true, true] rfl rfl (by kernel_rfl) (by decide) (fun KC hK => ?_)
    refine store_step (cs := #[.int .i64 (win res).1, .int .i64 (win res).2.1, .int .i64 (win res).2.2.1, .int .i64 (win res).2.2.2]) (by rfl) rfl 23 (.tmp 13) (.tmp 48) rfl rfl (by kernel_rfl) (K.out.get 0 rfl) rfl rfl (by first | (kernel_rfl) | (simp [Value.oneCell'])) ?_
    intro WS hs
    refine hK.out _ _ ?_
    replace K := Aside0.mk (K.out.stored 0 rfl hs)
    clear hK KC hs hHeld
    refine done_ (by kernel_rfl) ?_
    go_wp2
    go_meet
    case rel => exact ⟨_, rfl, ⟨K.out⟩⟩
  ·skip
   refine box_step ?hg (N := 13) ?hd (cs := #[.int .i64 0, .int .i64 0, .int .i64 0, .int .i64 0]) (t := 23) ?hr ?_
   case hd => rfl
   case hg => rfl
   case hr => first | (go_simp; done) | (go_simp; rfl)
   intro g13 hg w7_ hbox hb
   replace K := Aside0.mk (K.out.box (below_size K.out.below) hg hbox hb trivial)
   clear hg hbox hb hHeld
   refine hK.out _ _ ⟨K.out.get 2 rfl, K.out.get 3 rfl⟩ (fun hHeld0 => ?_)
   have hHeld := Aside0.mk hHeld0
   clear hHeld0
   clear hK KC
   refine nT ?_
   refine one_ (i := 4) (N := some 47) #[true, true, true, true, true, false, true, false] rfl rfl (by kernel_rfl) (by decide) (fun KC hK => ?_)
   refine goes_ Try.func33 (by kernel_rfl) rfl #[.agg #[.int .i64 x0, .int .i64 y0, .int .i64 x1, .int .i64 y1], .int .i64 (n : Int), .int .i64 (res : Int)] (by rfl) rfl rfl (by simp only [List.map_toArray, List.map_cons, List.map_nil]; rfl) ?_
   refine (pyramid_Resolution.calls kr x0 y0 x1 y1 (n : Int) (res : Int) (R res).1 (R res).2.1 (R res).2.2.1 (R res).2.2.2 _ (HRS.out res (Nat.le_refl _))).mono ?_
   rintro _ w5_ ⟨rfl, bb⟩
   refine ⟨_, rfl, ?_⟩
   replace K := Aside0.mk (K.out.call (below_size K.out.below) bb)
   clear bb hHeld
   refine hK.out _ _ ⟨K.out.get 2 rfl, K.out.get 3 rfl⟩ (fun hHeld0 => ?_)
   have hHeld := Aside0.mk hHeld0
   clear hHeld0
   clear hK KC
   refine nT ?_
   refine one_ (i := 5) (N := some 48) #[true, true, true, true, true, true, true, false] rfl rfl (by kernel_rfl) (by decide) (fun KC hK => ?_)
   refine goes_ Try.func32 (by kernel_rfl) rfl #[.agg #[.int .i64 z0, .int .i64 z1, .int .i64 z2, .int .i64 z3], .agg #[.int .i64 (R res).1, .int .i64 (R res).2.1, .int .i64 (R res).2.2.1, .int .i64 (R res).2.2.2]] (by rfl) rfl rfl (by simp only [List.map_toArray, List.map_cons, List.map_nil]; rfl) ?_
   refine (rect_Intersect.calls (z0) (z1) (z2) (z3) (R res).1 (R res).2.1 (R res).2.2.1 (R res).2.2.2 (win res).1 (win res).2.1 (win res).2.2.1 (win res).2.2.2 _ HW.out).mono ?_
   rintro _ w6_ ⟨rfl, bb⟩
   refine ⟨_, rfl, ?_⟩
   replace K := Aside0.mk (K.out.call (below_size K.out.below) bb)
   clear bb hHeld
   refine hK.out _ _ ⟨K.out.get 2 rfl, K.out.get 3 rfl⟩ (fun hHeld0 => ?_)
   have hHeld := Aside0.mk hHeld0
   clear hHeld0
   clear hK KC
   refine nT ?_
   refine last_ (i := 7) (N := none) #[true, true, true, true, true, true, true, true] rfl rfl (by kernel_rfl) (by decide) (fun KC hK => ?_)
   refine store_step (cs := #[.int .i64 (win res).1, .int .i64 (win res).2.1, .int .i64 (win res).2.2.1, .int .i64 (win res).2.2.2]) (by rfl) rfl 23 (.tmp 13) (.tmp 48) rfl rfl (by kernel_rfl) (K.out.get 0 rfl) rfl rfl (by first | (kernel_rfl) | (simp [Value.oneCell'])) ?_
   intro WS hs
   refine hK.out _ _ ?_
   replace K := Aside0.mk (K.out.stored 0 rfl hs)
   clear hK KC hs hHeld
   refine done_ (by kernel_rfl) ?_
   go_wp2
   go_meet
   case rel => exact ⟨_, rfl, ⟨K.out⟩⟩
 case rest =>
 obtain ⟨g13, rfl, K⟩ := hcut
 go_upto_region 9 with (first
  | ((with_reducible refine gate_dst (N := 49) rfl ?_); refine load_ev rfl 23 (.tmp 13) rfl rfl (K.out.get 0 rfl) Try.underlying23 rfl ?_)
  | (go_at_call 34; (with_reducible refine (rect_Empty.calls (win res).1 (win res).2.1 (win res).2.2.1 (win res).2.2.2 false _ HNE.out).mono ?_); rintro _ w34 ⟨rfl, b⟩; replace K := Aside0.mk (K.out.call (below_size K.out.below) b); clear b))
 have K0 := Aside0.mk (show Hold w.heap.size w _ ([(g13, 23, #[.int .i64 (win res).1, .int .i64 (win res).2.1, .int .i64 (win res).2.2.1, .int .i64 (win res).2.2.2]), (gO, 23, cellsR (needP n res res e)), (g8, 23, #[.int .i64 z0, .int .i64 z1, .int .i64 z2, .int .i64 z3]), (g5, 23, #[.int .i64 x0, .int .i64 y0, .int .i64 x1, .int .i64 y1])]) [] from by rw [needP_top, ← HMM.out.1]; exact K.out)
 clear K
 go_loopg [14] res (fun kq v14 w' => v14 = .int .i64 (kq : Int) ∧ kq ≤ res ∧ Aside0 (Hold w.heap.size w w' ([(g13, 23, #[.int .i64 (win kq).1, .int .i64 (win kq).2.1, .int .i64 (win kq).2.2.1, .int .i64 (win kq).2.2.2]), (gO, 23, cellsR (needP n res kq e)), (g8, 23, #[.int .i64 z0, .int .i64 z1, .int .i64 z2, .int .i64 z3]), (g5, 23, #[.int .i64 x0, .int .i64 y0, .int .i64 x1, .int .i64 y1])]) []))
 case atStart => exact ⟨rfl, Nat.le_refl _, K0⟩
 case round =>
 clear K0
 obtain ⟨rfl, hqr, K⟩ := hrel
 cases gk with
 | zero =>
  have hb0 : decide ((0 : Int) < ((0 : Nat) : Int)) = false := rfl
  have hb1 : (0 < m) = True := eq_true (by have := HMM.out; omega)
  have hb2 : ((0 : Int) < (m : Int)) = True := eq_true (by have := HMM.out; omega)
  clear hqr
  go_wp2_with (first
   | ((with_reducible refine gate_dst (N := 104) rfl ?_); refine load_ev rfl 23 (.tmp 13) rfl rfl (K.out.get 0 rfl) Try.underlying23 rfl ?_)
   | ((with_reducible refine gate_store (t := 23) (p := 105) (v := .tmp 104) rfl ?_); refine store_mid_ev (i := 0) (cs := #[.int .i64 (win 0).1, .int .i64 (win 0).2.1, .int .i64 (win 0).2.2.1, .int .i64 (win 0).2.2.2]) rfl rfl 23 (.tmp 105) (.tmp 104) rfl rfl rfl (K.out.get 1 rfl) (by rw [cellsR_size, needP_len]; show 0 + 4 ≤ _; omega) rfl (by first | (kernel_rfl) | (simp [Value.oneCell'])) (new := cellsR ((needP n res 0 e).set 0 (win 0))) (cellsR_set (j := 0) (q := win 0) (by rw [needP_len]; omega)) ?_; intro wS hs; replace K := Aside0.mk (K.out.stored 1 rfl hs); clear hs))
  go_ret
  exact ⟨gO, by rw [← HMM.out.1]; rfl, K.out.get 1 rfl, K.out.below⟩
 | succ q =>
  obtain ⟨z, hz⟩ : ∃ z : Int, z = ((q + 1 : Nat) : Int) := ⟨_, rfl⟩
  rw [← hz]
  have HRQ := Aside0.mk (show pyramid_Resolution.f kr x0 y0 x1 y1 (n : Int) z = some (R (q + 1)) by rw [hz]; exact HRS.out (q + 1) hqr)
  have HEQ := Aside0.mk (HE.out q (by omega))
  have HQ := Aside0.mk (show q < res by omega)
  have hb0 : decide (0 < z) = true := decide_eq_true (by omega)
  have hz1 : wrap64 (z - 1) = (q : Int) := by have := HNN.out; unfold wrap64; omega
  obtain ⟨j1, hj1⟩ : ∃ j : Nat, j = 3 * q + 1 := ⟨_, rfl⟩
  obtain ⟨j2, hj2⟩ : ∃ j : Nat, j = 3 * q + 2 := ⟨_, rfl⟩
  obtain ⟨j3, hj3⟩ : ∃ j : Nat, j = 3 * q + 3 := ⟨_, rfl⟩
  have e1 : wrap64 ((j3 : Int) - 2) = (j1 : Int) := by have := HNN.out; unfold wrap64; omega
  have e2 : wrap64 ((j3 : Int) - 1) = (j2 : Int) := by have := HNN.out; unfold wrap64; omega
  have e3 : wrap64 (3 * z) = (j3 : Int) := by have := HNN.out; unfold wrap64; omega
  have HJ1 := Aside0.mk hj1
  have HJ2 := Aside0.mk hj2
  have HJ3 := Aside0.mk hj3
  have HE13 := Aside0.mk (And.intro e1 (And.intro e2 e3))
  clear hz hj1 hj2 hj3 e1 e2 e3
  go_upto_region 11 with (fail)
  clear hb0
  go_cut [15] (fun v15 wc => ∃ g15 : Nat, v15 = .pointer (some ⟨g15, 0, none⟩) ∧ Aside0 (Hold w.heap.size w wc ((g15, 23, #[.int .i64 (e (q + 1)).1, .int .i64 (e (q + 1)).2.1, .int .i64 (e (q + 1)).2.2.1, .int .i64 (e (q + 1)).2.2.2]) :: [(g13, 23, #[.int .i64 (win (q + 1)).1, .int .i64 (win (q + 1)).2.1, .int .i64 (win (q + 1)).2.2.1, .int .i64 (win (q + 1)).2.2.2]), (gO, 23, cellsR (needP n res (q + 1) e)), (g8, 23, #[.int .i64 z0, .int .i64 z1, .int .i64 z2, .int .i64 z3]), (g5, 23, #[.int .i64 x0, .int .i64 y0, .int .i64 x1, .int .i64 y1])]) []))
  case first =>
   replace K := Aside0.mk (K.out.drew)
   clear hz1
   refine start_ (n := 24) (S := fun w' => w'.heap[g13]? = some (.cells #[.int .i64 (win (q + 1)).1, .int .i64 (win (q + 1)).2.1, .int .i64 (win (q + 1)).2.2.1, .int .i64 (win (q + 1)).2.2.2] 23 (0, 0)) ∧ w'.heap[g5]? = some (.cells #[.int .i64 x0, .int .i64 y0, .int .i64 x1, .int .i64 y1] 23 (0, 0))) (ds := [23]) #[false, false, false, false, false, false, false, false, false, false, false, false, false, false, false, false, false, false, false, false, false, false, false, false] (by kernel_rfl) rfl rfl ⟨K.out.get 0 rfl, K.out.get 3 rfl⟩ (fun hHeld0 => ?_)
   generalize hw2 : wr.drew = w2 at *
   clear hw2
   have hHeld := Aside0.mk hHeld0
   clear hHeld0
   refine pT (i := 0) (N := some 57) ?_
   refine take_ (i := 1) (N := some 58) (v := ?_) (a' := ?_) #[true, true, false, false, false, false, false, false, false, false, false, false, false, false, false, false, false, false, false, false, false, false, false, false] rfl rfl (by kernel_rfl) (fun _ _ _ h => h) (Or.inl ⟨by rfl, ?_⟩) hHeld.out ?_ ?_
   rotate_left
   ·rintro w' ⟨s0, s1⟩
    have sx : w'.cell? ⟨g13, 0, none⟩ = some (.int .i64 (win (q + 1)).1) := (blk_cell s0 0).trans rfl
    go_simp
    with_reducible rfl
   rotate_left
   ·simp only [Act.put, List.setIfInBounds_toArray, List.set_cons_zero, List.set_cons_succ, i64_w, i32_w]
    rfl
   refine pT (i := 2) (N := some 59) ?_
   refine pT (i := 3) (N := some 60) ?_
   refine pT (i := 4) (N := some 61) ?_
   refine take_ (i := 5) (N := some 62) (v := ?_) (a' := ?_) #[true, true, true, true, true, true, false, false, false, false, false, false, false, false, false, false, false, false, false, false, false, false, false, false] rfl rfl (by kernel_rfl) (fun _ _ _ h => h) (Or.inl ⟨by rfl, ?_⟩) hHeld.out ?_ ?_
   rotate_left
   ·rintro w' ⟨s0, s1⟩
    have sx : w'.cell? ⟨g13, 1, none⟩ = some (.int .i64 (win (q + 1)).2.1) := (blk_cell s0 1).trans rfl
    go_simp
    with_reducible rfl
   rotate_left
   ·simp only [Act.put, List.setIfInBounds_toArray, List.set_cons_zero, List.set_cons_succ, i64_w, i32_w]
    rfl
   refine pT (i := 6) (N := some 63) ?_
   refine pT (i := 7) (N := some 64) ?_
   refine pT (i := 8) (N := some 65) ?_
   refine take_ (i := 9) (N := some 66) (v := ?_) (a' := ?_) #[true, true, true, true, true, true, true, true, true, true, false, false, false, false, false, false, false, false, false, false, false, false, false, false] rfl rfl (by kernel_rfl) (fun _ _ _ h => h) (Or.inl ⟨by rfl, ?_⟩) hHeld.out ?_ ?_
   rotate_left
   ·rintro w' ⟨s0, s1⟩
    have sx : w'.cell? ⟨g13, 2, none⟩ = some (.int .i64 (win (q + 1)).2.2.1) := (blk_cell s0 2).trans rfl
    go_simp
    with_reducible rfl
   rotate_left
   ·simp only [Act.put, List.setIfInBounds_toArray, List.set_cons_zero, List.set_cons_succ, i64_w, i32_w]
    rfl
   refine pT (i := 10) (N := some 67) ?_
   refine pT (i := 11) (N := some 68) ?_
   refine pT (i := 12) (N := some 69) ?_
   refine take_ (i := 13) (N := some 70) (v := ?_) (a' := ?_) #[true, true, true, true, true, true, true, true, true, true, true, true, true, true, false, false, false, false, false, false, false, false, false, false] rfl rfl (by kernel_rfl) (fun _ _ _ h => h) (Or.inl ⟨by rfl, ?_⟩) hHeld.out ?_ ?_
   rotate_left
   ·rintro w' ⟨s0, s1⟩
    have sx : w'.cell? ⟨g13, 3, none⟩ = some (.int .i64 (win (q + 1)).2.2.2) := (blk_cell s0 3).trans rfl
    go_simp
    with_reducible rfl
   rotate_left
   ·simp only [Act.put, List.setIfInBounds_toArray, List.set_cons_zero, List.set_cons_succ, i64_w, i32_w]
    rfl
   refine pT (i := 14) (N := some 71) ?_
   refine pT (i := 15) (N := some 72) ?_
   refine pT (i := 16) (N := some 73) ?_
   refine take_ (i := 17) (N := some 74) (v := .agg #[.int .i64 x0, .int .i64 y0, .int .i64 x1, .int .i64 y1]) (a' := ?_) #[true, true, true, true, true, true, true, true, true, true, true, true, true, true, true, true, true, true, false, false, false, false, false, false] rfl rfl (by kernel_rfl) (fun _ _ _ h => h) (load_all_yields (by rfl) 23 (.tmp 5) rfl rfl (fun _ h => h.2) Try.underlying23 rfl rfl) hHeld.out ?_ ?_
   rotate_left
   ·simp only [Act.put, List.setIfInBounds_toArray, List.set_cons_zero, List.set_cons_succ, i64_w, i32_w]
    rfl
   refine pT (i := 18) (N := some 75) ?_
   refine pT (i := 19) (N := some 76) ?_
   refine two_ (i := 20) (j := 22) (Ni := some 77) (Nj := some 15) #[true, true, true, true, true, true, true, true, true, true, true, true, true, true, true, true, true, true, true, true, true, false, false, false] #[true, true, true, true, true, true, true, true, true, true, true, true, true, true, true, true, true, true, true, true, false, false, true, false] rfl rfl rfl rfl (by kernel_rfl) (by decide) (by decide) (fun KC hK => ?_) (fun KC hK => ?_)
   ·skip
    refine goes_ Try.func33 (by kernel_rfl) rfl #[.agg #[.int .i64 x0, .int .i64 y0, .int .i64 x1, .int .i64 y1], .int .i64 (n : Int), .int .i64 z] (by rfl) rfl rfl (by simp only [List.map_toArray, List.map_cons, List.map_nil]; rfl) ?_
    refine (pyramid_Resolution.calls kr x0 y0 x1 y1 (n : Int) z (R (q + 1)).1 (R (q + 1)).2.1 (R (q + 1)).2.2.1 (R (q + 1)).2.2.2 _ HRQ.out).mono ?_
    rintro _ w5_ ⟨rfl, bb⟩
    refine ⟨_, rfl, ?_⟩
    replace K := Aside0.mk (K.out.call (below_size K.out.below) bb)
    clear bb hHeld
    refine hK.out _ _ ⟨K.out.get 0 rfl, K.out.get 3 rfl⟩ (fun hHeld0 => ?_)
    have hHeld := Aside0.mk hHeld0
    clear hHeld0
    clear hK KC
    refine nT ?_
    refine two_ (i := 21) (j := 22) (Ni := some 78) (Nj := some 15) #[true, true, true, true, true, true, true, true, true, true, true, true, true, true, true, true, true, true, true, true, true, true, false, false] #[true, true, true, true, true, true, true, true, true, true, true, true, true, true, true, true, true, true, true, true, true, false, true, false] rfl rfl rfl rfl (by kernel_rfl) (by decide) (by decide) (fun KC hK => ?_) (fun KC hK => ?_)
    ·skip
     refine goes_ Try.func32 (by kernel_rfl) rfl #[.agg #[.int .i64 (wrap64 ((win (q + 1)).1 - mg)), .int .i64 (wrap64 ((win (q + 1)).2.1 - mg)), .int .i64 (wrap64 ((win (q + 1)).2.2.1 + mg)), .int .i64 (wrap64 ((win (q + 1)).2.2.2 + mg))], .agg #[.int .i64 (R (q + 1)).1, .int .i64 (R (q + 1)).2.1, .int .i64 (R (q + 1)).2.2.1, .int .i64 (R (q + 1)).2.2.2]] (by rfl) rfl rfl (by simp only [List.map_toArray, List.map_cons, List.map_nil]; rfl) ?_
     refine (rect_Intersect.calls ((wrap64 ((win (q + 1)).1 - mg))) ((wrap64 ((win (q + 1)).2.1 - mg))) ((wrap64 ((win (q + 1)).2.2.1 + mg))) ((wrap64 ((win (q + 1)).2.2.2 + mg))) (R (q + 1)).1 (R (q + 1)).2.1 (R (q + 1)).2.2.1 (R (q + 1)).2.2.2 ((e (q + 1))).1 ((e (q + 1))).2.1 ((e (q + 1))).2.2.1 ((e (q + 1))).2.2.2 _ HEQ.out.1).mono ?_
     rintro _ w6_ ⟨rfl, bb⟩
     refine ⟨_, rfl, ?_⟩
     replace K := Aside0.mk (K.out.call (below_size K.out.below) bb)
     clear bb hHeld
     refine hK.out _ _ ⟨K.out.get 0 rfl, K.out.get 3 rfl⟩ (fun hHeld0 => ?_)
     have hHeld := Aside0.mk hHeld0
     clear hHeld0
     clear hK KC
     refine nT ?_
     refine one_ (i := 22) (N := some 15) #[true, true, true, true, true, true, true, true, true, true, true, true, true, true, true, true, true, true, true, true, true, true, true, false] rfl rfl (by kernel_rfl) (by decide) (fun KC hK => ?_)
     refine box_step ?hg (N := 15) ?hd (cs := #[.int .i64 0, .int .i64 0, .int .i64 0, .int .i64 0]) (t := 23) ?hr ?_
     case hd => rfl
     case hg => rfl
     case hr => first | (go_simp; done) | (go_simp; rfl)
     intro g15 hg w7_ hbox hb
     replace K := Aside0.mk (K.out.box (below_size K.out.below) hg hbox hb trivial)
     clear hg hbox hb hHeld
     refine hK.out _ _ ⟨K.out.get 1 rfl, K.out.get 4 rfl⟩ (fun hHeld0 => ?_)
     have hHeld := Aside0.mk hHeld0
     clear hHeld0
     clear hK KC
     refine nT ?_
     refine last_ (i := 23) (N := none) #[true, true, true, true, true, true, true, true, true, true, true, true, true, true, true, true, true, true, true, true, true, true, true, true] rfl rfl (by kernel_rfl) (by decide) (fun KC hK => ?_)
     refine store_step (cs := #[.int .i64 (e (q + 1)).1, .int .i64 (e (q + 1)).2.1, .int .i64 (e (q + 1)).2.2.1, .int .i64 (e (q + 1)).2.2.2]) (by rfl) rfl 23 (.tmp 15) (.tmp 78) rfl rfl (by kernel_rfl) (K.out.get 0 rfl) rfl rfl (by first | (kernel_rfl) | (simp [Value.oneCell'])) ?_
     intro WS hs
     refine hK.out _ _ ?_
     replace K := Aside0.mk (K.out.stored 0 rfl hs)
     clear hK KC hs hHeld
     refine done_ (by kernel_rfl) ?_
     go_wp2
     go_meet
     case rel => exact ⟨_, rfl, ⟨K.out⟩⟩
    ·skip
     refine box_step ?hg (N := 15) ?hd (cs := #[.int .i64 0, .int .i64 0, .int .i64 0, .int .i64 0]) (t := 23) ?hr ?_
     case hd => rfl
     case hg => rfl
     case hr => first | (go_simp; done) | (go_simp; rfl)
     intro g15 hg w7_ hbox hb
     replace K := Aside0.mk (K.out.box (below_size K.out.below) hg hbox hb trivial)
     clear hg hbox hb hHeld
     refine hK.out _ _ ⟨K.out.get 1 rfl, K.out.get 4 rfl⟩ (fun hHeld0 => ?_)
     have hHeld := Aside0.mk hHeld0
     clear hHeld0
     clear hK KC
     refine nT ?_
     refine one_ (i := 21) (N := some 78) #[true, true, true, true, true, true, true, true, true, true, true, true, true, true, true, true, true, true, true, true, true, true, true, false] rfl rfl (by kernel_rfl) (by decide) (fun KC hK => ?_)
     refine goes_ Try.func32 (by kernel_rfl) rfl #[.agg #[.int .i64 (wrap64 ((win (q + 1)).1 - mg)), .int .i64 (wrap64 ((win (q + 1)).2.1 - mg)), .int .i64 (wrap64 ((win (q + 1)).2.2.1 + mg)), .int .i64 (wrap64 ((win (q + 1)).2.2.2 + mg))], .agg #[.int .i64 (R (q + 1)).1, .int .i64 (R (q + 1)).2.1, .int .i64 (R (q + 1)).2.2.1, .int .i64 (R (q + 1)).2.2.2]] (by rfl) rfl rfl (by simp only [List.map_toArray, List.map_cons, List.map_nil]; rfl) ?_
     refine (rect_Intersect.calls ((wrap64 ((win (q + 1)).1 - mg))) ((wrap64 ((win (q + 1)).2.1 - mg))) ((wrap64 ((win (q + 1)).2.2.1 + mg))) ((wrap64 ((win (q + 1)).2.2.2 + mg))) (R (q + 1)).1 (R (q + 1)).2.1 (R (q + 1)).2.2.1 (R (q + 1)).2.2.2 ((e (q + 1))).1 ((e (q + 1))).2.1 ((e (q + 1))).2.2.1 ((e (q + 1))).2.2.2 _ HEQ.out.1).mono ?_
     rintro _ w6_ ⟨rfl, bb⟩
     refine ⟨_, rfl, ?_⟩
     replace K := Aside0.mk (K.out.call (below_size K.out.below) bb)
     clear bb hHeld
     refine hK.out _ _ ⟨K.out.get 1 rfl, K.out.get 4 rfl⟩ (fun hHeld0 => ?_)
     have hHeld := Aside0.mk hHeld0
     clear hHeld0
     clear hK KC
     refine nT ?_
     refine last_ (i := 23) (N := none) #[true, true, true, true, true, true, true, true, true, true, true, true, true, true, true, true, true, true, true, true, true, true, true, true] rfl rfl (by kernel_rfl) (by decide) (fun KC hK => ?_)
     refine store_step (cs := #[.int .i64 (e (q + 1)).1, .int .i64 (e (q + 1)).2.1, .int .i64 (e (q + 1)).2.2.1, .int .i64 (e (q + 1)).2.2.2]) (by rfl) rfl 23 (.tmp 15) (.tmp 78) rfl rfl (by kernel_rfl) (K.out.get 0 rfl) rfl rfl (by first | (kernel_rfl) | (simp [Value.oneCell'])) ?_
     intro WS hs
     refine hK.out _ _ ?_
     replace K := Aside0.mk (K.out.stored 0 rfl hs)
     clear hK KC hs hHeld
     refine done_ (by kernel_rfl) ?_
     go_wp2
     go_meet
     case rel => exact ⟨_, rfl, ⟨K.out⟩⟩
   ·skip
    refine box_step ?hg (N := 15) ?hd (cs := #[.int .i64 0, .int .i64 0, .int .i64 0, .int .i64 0]) (t := 23) ?hr ?_
    case hd => rfl
    case hg => rfl
    case hr => first | (go_simp; done) | (go_simp; rfl)
    intro g15 hg w7_ hbox hb
    replace K := Aside0.mk (K.out.box (below_size K.out.below) hg hbox hb trivial)
    clear hg hbox hb hHeld
    refine hK.out _ _ ⟨K.out.get 1 rfl, K.out.get 4 rfl⟩ (fun hHeld0 => ?_)
    have hHeld := Aside0.mk hHeld0
    clear hHeld0
    clear hK KC
    refine nT ?_
    refine one_ (i := 20) (N := some 77) #[true, true, true, true, true, true, true, true, true, true, true, true, true, true, true, true, true, true, true, true, true, false, true, false] rfl rfl (by kernel_rfl) (by decide) (fun KC hK => ?_)
    refine goes_ Try.func33 (by kernel_rfl) rfl #[.agg #[.int .i64 x0, .int .i64 y0, .int .i64 x1, .int .i64 y1], .int .i64 (n : Int), .int .i64 z] (by rfl) rfl rfl (by simp only [List.map_toArray, List.map_cons, List.map_nil]; rfl) ?_
    refine (pyramid_Resolution.calls kr x0 y0 x1 y1 (n : Int) z (R (q + 1)).1 (R (q + 1)).2.1 (R (q + 1)).2.2.1 (R (q + 1)).2.2.2 _ HRQ.out).mono ?_
    rintro _ w5_ ⟨rfl, bb⟩
    refine ⟨_, rfl, ?_⟩
    replace K := Aside0.mk (K.out.call (below_size K.out.below) bb)
    clear bb hHeld
    refine hK.out _ _ ⟨K.out.get 1 rfl, K.out.get 4 rfl⟩ (fun hHeld0 => ?_)
    have hHeld := Aside0.mk hHeld0
    clear hHeld0
    clear hK KC
    refine nT ?_
    refine one_ (i := 21) (N := some 78) #[true, true, true, true, true, true, true, true, true, true, true, true, true, true, true, true, true, true, true, true, true, true, true, false] rfl rfl (by kernel_rfl) (by decide) (fun KC hK => ?_)
    refine goes_ Try.func32 (by kernel_rfl) rfl #[.agg #[.int .i64 (wrap64 ((win (q + 1)).1 - mg)), .int .i64 (wrap64 ((win (q + 1)).2.1 - mg)), .int .i64 (wrap64 ((win (q + 1)).2.2.1 + mg)), .int .i64 (wrap64 ((win (q + 1)).2.2.2 + mg))], .agg #[.int .i64 (R (q + 1)).1, .int .i64 (R (q + 1)).2.1, .int .i64 (R (q + 1)).2.2.1, .int .i64 (R (q + 1)).2.2.2]] (by rfl) rfl rfl (by simp only [List.map_toArray, List.map_cons, List.map_nil]; rfl) ?_
    refine (rect_Intersect.calls ((wrap64 ((win (q + 1)).1 - mg))) ((wrap64 ((win (q + 1)).2.1 - mg))) ((wrap64 ((win (q + 1)).2.2.1 + mg))) ((wrap64 ((win (q + 1)).2.2.2 + mg))) (R (q + 1)).1 (R (q + 1)).2.1 (R (q + 1)).2.2.1 (R (q + 1)).2.2.2 ((e (q + 1))).1 ((e (q + 1))).2.1 ((e (q + 1))).2.2.1 ((e (q + 1))).2.2.2 _ HEQ.out.1).mono ?_
    rintro _ w6_ ⟨rfl, bb⟩
    refine ⟨_, rfl, ?_⟩
    replace K := Aside0.mk (K.out.call (below_size K.out.below) bb)
    clear bb hHeld
    refine hK.out _ _ ⟨K.out.get 1 rfl, K.out.get 4 rfl⟩ (fun hHeld0 => ?_)
    have hHeld := Aside0.mk hHeld0
    clear hHeld0
    clear hK KC
    refine nT ?_
    refine last_ (i := 23) (N := none) #[true, true, true, true, true, true, true, true, true, true, true, true, true, true, true, true, true, true, true, true, true, true, true, true] rfl rfl (by kernel_rfl) (by decide) (fun KC hK => ?_)
    refine store_step (cs := #[.int .i64 (e (q + 1)).1, .int .i64 (e (q + 1)).2.1, .int .i64 (e (q + 1)).2.2.1, .int .i64 (e (q + 1)).2.2.2]) (by rfl) rfl 23 (.tmp 15) (.tmp 78) rfl rfl (by kernel_rfl) (K.out.get 0 rfl) rfl rfl (by first | (kernel_rfl) | (simp [Value.oneCell'])) ?_
    intro WS hs
    refine hK.out _ _ ?_
    replace K := Aside0.mk (K.out.stored 0 rfl hs)
    clear hK KC hs hHeld
    refine done_ (by kernel_rfl) ?_
    go_wp2
    go_meet
    case rel => exact ⟨_, rfl, ⟨K.out⟩⟩
  case rest =>
  obtain ⟨g15, rfl, K⟩ := hcut
  have HVE := Aside0.mk (rv_of HEQ.out.2.1 HEQ.out.2.2.1)
  have HBE := Aside0.mk (bands_of HEQ.out.2.1 HEQ.out.2.2.1)
  go_upto_region 13 with (first
   | ((with_reducible refine gate_dst (N := 79) rfl ?_); refine load_ev rfl 23 (.tmp 15) rfl rfl (K.out.get 0 rfl) Try.underlying23 rfl ?_)
   | (go_at_call 35; (with_reducible refine (dwt_Bands.good (e (q + 1)).1 (e (q + 1)).2.1 (e (q + 1)).2.2.1 (e (q + 1)).2.2.2 _ HVE.out).mono ?_); rintro _ w35 ⟨rfl, b⟩; rw [HBE.out]; replace K := Aside0.mk (K.out.call (below_size K.out.below) b); clear b)
   | ((with_reducible refine gate_dst (N := 16) rfl ?_); refine bT (N := 16) (#[.int .i64 0, .int .i64 0, .int .i64 0, .int .i64 0, .int .i64 0, .int .i64 0, .int .i64 0, .int .i64 0, .int .i64 0, .int .i64 0, .int .i64 0, .int .i64 0, .int .i64 0, .int .i64 0, .int .i64 0, .int .i64 0]) 62 ?_; intro g16 hg W16 hbox hb; replace K := Aside0.mk (K.out.box (below_size K.out.below) hg hbox hb trivial); clear hg hbox hb)
   | ((with_reducible refine gate_store (t := 62) (p := 16) (v := .tmp 80) rfl ?_); refine store_ev rfl rfl 62 (.tmp 16) (.tmp 80) rfl rfl rfl (K.out.get 0 rfl) rfl rfl (by first | (kernel_rfl) | (simp [Value.oneCell'])) ?_; intro W16s hs; replace K := Aside0.mk (K.out.stored 0 rfl hs); clear hs))
  clear HVE HBE
  replace K := Aside0.mk (K.out.drew)
  have e1 := HE13.out.1
  have e2 := HE13.out.2.1
  have e3 := HE13.out.2.2
  have p10 : (0 ≤ (j1 : Int)) = True := eq_true (by omega)
  have p11 : ((j1 : Int) < (m : Int)) = True := eq_true (by have := HJ1.out; have := HMM.out; have := HQ.out; have := HNN.out; omega)
  have p12 : (j1 < m) = True := eq_true (by have := HJ1.out; have := HMM.out; have := HQ.out; have := HNN.out; omega)
  have p20 : (0 ≤ (j2 : Int)) = True := eq_true (by omega)
  have p21 : ((j2 : Int) < (m : Int)) = True := eq_true (by have := HJ2.out; have := HMM.out; have := HQ.out; have := HNN.out; omega)
  have p22 : (j2 < m) = True := eq_true (by have := HJ2.out; have := HMM.out; have := HQ.out; have := HNN.out; omega)
  have p30 : (0 ≤ (j3 : Int)) = True := eq_true (by omega)
  have p31 : ((j3 : Int) < (m : Int)) = True := eq_true (by have := HJ3.out; have := HMM.out; have := HQ.out; have := HNN.out; omega)
  have p32 : (j3 < m) = True := eq_true (by have := HJ3.out; have := HMM.out; have := HQ.out; have := HNN.out; omega)
  refine start_ (n := 23) (S := fun w' => w'.heap[g16]? = some (.cells #[.int .i64 (((e (q + 1)).1 + 1) / 2), .int .i64 (((e (q + 1)).2.1 + 1) / 2), .int .i64 (((e (q + 1)).2.2.1 + 1) / 2), .int .i64 (((e (q + 1)).2.2.2 + 1) / 2), .int .i64 ((e (q + 1)).1 / 2), .int .i64 (((e (q + 1)).2.1 + 1) / 2), .int .i64 ((e (q + 1)).2.2.1 / 2), .int .i64 (((e (q + 1)).2.2.2 + 1) / 2), .int .i64 (((e (q + 1)).1 + 1) / 2), .int .i64 ((e (q + 1)).2.1 / 2), .int .i64 (((e (q + 1)).2.2.1 + 1) / 2), .int .i64 ((e (q + 1)).2.2.2 / 2), .int .i64 ((e (q + 1)).1 / 2), .int .i64 ((e (q + 1)).2.1 / 2), .int .i64 ((e (q + 1)).2.2.1 / 2), .int .i64 ((e (q + 1)).2.2.2 / 2)] 62 (0, 0))) (ds := [22]) #[false, false, false, false, false, false, false, false, false, false, false, false, false, false, false, false, false, false, false, false, false, false, false] (by kernel_rfl) rfl rfl (K.out.get 0 rfl) (fun hHeld0 => ?_)
  generalize hw2 : W16s.drew = w2 at *
  clear hw2
  have hHeld := Aside0.mk hHeld0
  clear hHeld0
  refine pT (i := 0) (N := some 81) ?_
  refine pT (i := 1) (N := some 82) ?_
  refine pT (i := 2) (N := some 83) ?_
  refine pT (i := 3) (N := some 84) ?_
  refine pT (i := 4) (N := some 85) ?_
  refine pT (i := 5) (N := some 86) ?_
  refine pT (i := 6) (N := some 87) ?_
  refine pT (i := 7) (N := some 88) ?_
  refine pT (i := 8) (N := some 89) ?_
  refine pT (i := 9) (N := some 90) ?_
  refine pT (i := 10) (N := some 91) ?_
  refine pT (i := 11) (N := some 92) ?_
  refine take_ (i := 12) (N := some 93) (v := .agg #[.int .i64 ((e (q + 1)).1 / 2), .int .i64 (((e (q + 1)).2.1 + 1) / 2), .int .i64 ((e (q + 1)).2.2.1 / 2), .int .i64 (((e (q + 1)).2.2.2 + 1) / 2)]) (a' := ?_) #[true, true, true, true, true, true, true, true, true, true, true, true, true, false, false, false, false, false, false, false, false, false, false] rfl rfl (by kernel_rfl) (fun _ _ _ h => h) (load_mid_yields (i := 4) (cs := #[.int .i64 ((e (q + 1)).1 / 2), .int .i64 (((e (q + 1)).2.1 + 1) / 2), .int .i64 ((e (q + 1)).2.2.1 / 2), .int .i64 (((e (q + 1)).2.2.2 + 1) / 2)]) (by rfl) 23 (.tmp 92) rfl rfl (fun _ h => h) (fun j v hj => by rcases j with _ | _ | _ | _ | j <;> first | exact hj | (simp at hj)) Try.underlying23 rfl rfl) hHeld.out ?_ ?_
  rotate_left
  ·simp only [Act.put, List.setIfInBounds_toArray, List.set_cons_zero, List.set_cons_succ, i64_w, i32_w]
   rfl
  refine pT (i := 13) (N := some 94) ?_
  refine take_ (i := 14) (N := some 95) (v := .agg #[.int .i64 (((e (q + 1)).1 + 1) / 2), .int .i64 ((e (q + 1)).2.1 / 2), .int .i64 (((e (q + 1)).2.2.1 + 1) / 2), .int .i64 ((e (q + 1)).2.2.2 / 2)]) (a' := ?_) #[true, true, true, true, true, true, true, true, true, true, true, true, true, true, true, false, false, false, false, false, false, false, false] rfl rfl (by kernel_rfl) (fun _ _ _ h => h) (load_mid_yields (i := 8) (cs := #[.int .i64 (((e (q + 1)).1 + 1) / 2), .int .i64 ((e (q + 1)).2.1 / 2), .int .i64 (((e (q + 1)).2.2.1 + 1) / 2), .int .i64 ((e (q + 1)).2.2.2 / 2)]) (by rfl) 23 (.tmp 94) rfl rfl (fun _ h => h) (fun j v hj => by rcases j with _ | _ | _ | _ | j <;> first | exact hj | (simp at hj)) Try.underlying23 rfl rfl) hHeld.out ?_ ?_
  rotate_left
  ·simp only [Act.put, List.setIfInBounds_toArray, List.set_cons_zero, List.set_cons_succ, i64_w, i32_w]
   rfl
  refine pT (i := 15) (N := some 96) ?_
  refine take_ (i := 16) (N := some 97) (v := .agg #[.int .i64 ((e (q + 1)).1 / 2), .int .i64 ((e (q + 1)).2.1 / 2), .int .i64 ((e (q + 1)).2.2.1 / 2), .int .i64 ((e (q + 1)).2.2.2 / 2)]) (a' := ?_) #[true, true, true, true, true, true, true, true, true, true, true, true, true, true, true, true, true, false, false, false, false, false, false] rfl rfl (by kernel_rfl) (fun _ _ _ h => h) (load_mid_yields (i := 12) (cs := #[.int .i64 ((e (q + 1)).1 / 2), .int .i64 ((e (q + 1)).2.1 / 2), .int .i64 ((e (q + 1)).2.2.1 / 2), .int .i64 ((e (q + 1)).2.2.2 / 2)]) (by rfl) 23 (.tmp 96) rfl rfl (fun _ h => h) (fun j v hj => by rcases j with _ | _ | _ | _ | j <;> first | exact hj | (simp at hj)) Try.underlying23 rfl rfl) hHeld.out ?_ ?_
  rotate_left
  ·simp only [Act.put, List.setIfInBounds_toArray, List.set_cons_zero, List.set_cons_succ, i64_w, i32_w]
   rfl
  refine pT (i := 17) (N := some 98) ?_
  refine one_ (i := 18) (N := none) #[true, true, true, true, true, true, true, true, true, true, true, true, true, true, true, true, true, true, true, false, false, false, false] rfl rfl (by kernel_rfl) (by decide) (fun KC hK => ?_)
  refine store_mid_step (i := j1 * 4) (cs := #[.int .i64 ((e (q + 1)).1 / 2), .int .i64 (((e (q + 1)).2.1 + 1) / 2), .int .i64 ((e (q + 1)).2.2.1 / 2), .int .i64 (((e (q + 1)).2.2.2 + 1) / 2)]) (by rfl) rfl 23 (.tmp 98) (.tmp 93) rfl rfl (by kernel_rfl) (K.out.get 3 rfl) (by rw [cellsR_size]; show j1 * 4 + 4 ≤ _; have := HJ1.out; have := HMM.out; have := HQ.out; have := HNN.out; simp only [List.length_set, needP_len]; omega) rfl (by first | (kernel_rfl) | (simp [Value.oneCell'])) (new := cellsR ((needP n res (q + 1) e).set (3 * q + 1) (bHL (e (q + 1))))) (by rw [show j1 * 4 = 4 * (3 * q + 1) by have := HJ1.out; omega]; exact cellsR_set (q := bHL (e (q + 1))) (by have := HMM.out; have := HQ.out; have := HNN.out; simp only [List.length_set, needP_len]; omega)) ?_
  intro WS hs
  replace K := Aside0.mk (K.out.stored 3 rfl hs)
  clear hs hHeld
  refine hK.out _ _ (K.out.get 0 rfl) (fun hHeld0 => ?_)
  have hHeld := Aside0.mk hHeld0
  clear hHeld0 hK KC
  refine pT (i := 19) (N := some 99) ?_
  refine one_ (i := 20) (N := none) #[true, true, true, true, true, true, true, true, true, true, true, true, true, true, true, true, true, true, true, true, true, false, false] rfl rfl (by kernel_rfl) (by decide) (fun KC hK => ?_)
  refine store_mid_step (i := j2 * 4) (cs := #[.int .i64 (((e (q + 1)).1 + 1) / 2), .int .i64 ((e (q + 1)).2.1 / 2), .int .i64 (((e (q + 1)).2.2.1 + 1) / 2), .int .i64 ((e (q + 1)).2.2.2 / 2)]) (by rfl) rfl 23 (.tmp 99) (.tmp 95) rfl rfl (by kernel_rfl) (K.out.get 3 rfl) (by rw [cellsR_size]; show j2 * 4 + 4 ≤ _; have := HJ2.out; have := HMM.out; have := HQ.out; have := HNN.out; simp only [List.length_set, needP_len]; omega) rfl (by first | (kernel_rfl) | (simp [Value.oneCell'])) (new := cellsR (((needP n res (q + 1) e).set (3 * q + 1) (bHL (e (q + 1)))).set (3 * q + 2) (bLH (e (q + 1))))) (by rw [show j2 * 4 = 4 * (3 * q + 2) by have := HJ2.out; omega]; exact cellsR_set (q := bLH (e (q + 1))) (by have := HMM.out; have := HQ.out; have := HNN.out; simp only [List.length_set, needP_len]; omega)) ?_
  intro WS hs
  replace K := Aside0.mk (K.out.stored 3 rfl hs)
  clear hs hHeld
  refine hK.out _ _ (K.out.get 0 rfl) (fun hHeld0 => ?_)
  have hHeld := Aside0.mk hHeld0
  clear hHeld0 hK KC
  refine pT (i := 21) (N := some 100) ?_
  refine last_ (i := 22) (N := none) #[true, true, true, true, true, true, true, true, true, true, true, true, true, true, true, true, true, true, true, true, true, true, true] rfl rfl (by kernel_rfl) (by decide) (fun KC hK => ?_)
  refine store_mid_step (i := j3 * 4) (cs := #[.int .i64 ((e (q + 1)).1 / 2), .int .i64 ((e (q + 1)).2.1 / 2), .int .i64 ((e (q + 1)).2.2.1 / 2), .int .i64 ((e (q + 1)).2.2.2 / 2)]) (by rfl) rfl 23 (.tmp 100) (.tmp 97) rfl rfl (by kernel_rfl) (K.out.get 3 rfl) (by rw [cellsR_size]; show j3 * 4 + 4 ≤ _; have := HJ3.out; have := HMM.out; have := HQ.out; have := HNN.out; simp only [List.length_set, needP_len]; omega) rfl (by first | (kernel_rfl) | (simp [Value.oneCell'])) (new := cellsR ((((needP n res (q + 1) e).set (3 * q + 1) (bHL (e (q + 1)))).set (3 * q + 2) (bLH (e (q + 1)))).set (3 * q + 3) (bHH (e (q + 1))))) (by rw [show j3 * 4 = 4 * (3 * q + 3) by have := HJ3.out; omega]; exact cellsR_set (q := bHH (e (q + 1))) (by have := HMM.out; have := HQ.out; have := HNN.out; simp only [List.length_set, needP_len]; omega)) ?_
  intro WS hs
  refine hK.out _ _ ?_
  replace K := Aside0.mk (K.out.stored 3 rfl hs)
  clear hK KC hs hHeld
  refine done_ (by kernel_rfl) ?_
  clear p10 p11 p12 p20 p21 p22 p30 p31 p32 e1 e2 e3
  go_wp2_with (first
   | ((with_reducible refine gate_dst (N := 102) rfl ?_); refine load_mid_ev (i := 0) (cs := #[.int .i64 (((e (q + 1)).1 + 1) / 2), .int .i64 (((e (q + 1)).2.1 + 1) / 2), .int .i64 (((e (q + 1)).2.2.1 + 1) / 2), .int .i64 (((e (q + 1)).2.2.2 + 1) / 2)]) rfl 23 (.tmp 101) rfl rfl (K.out.get 0 rfl) (fun j v hj => by rcases j with _ | _ | _ | _ | j <;> first | exact hj | (simp at hj)) Try.underlying23 rfl rfl ?_)
   | ((with_reducible refine gate_store (t := 23) (p := 13) (v := .tmp 102) rfl ?_); refine store_ev rfl rfl 23 (.tmp 13) (.tmp 102) rfl rfl rfl (K.out.get 2 rfl) rfl rfl (by first | (kernel_rfl) | (simp [Value.oneCell'])) ?_; intro W13s hs; replace K := Aside0.mk (K.out.stored 2 rfl hs); clear hs))
  have K' := Aside0.mk (show Hold w.heap.size w _ ([(g13, 23, #[.int .i64 (win q).1, .int .i64 (win q).2.1, .int .i64 (win q).2.2.1, .int .i64 (win q).2.2.2]), (gO, 23, cellsR (needP n res q e)), (g8, 23, #[.int .i64 z0, .int .i64 z1, .int .i64 z2, .int .i64 z3]), (g5, 23, #[.int .i64 x0, .int .i64 y0, .int .i64 x1, .int .i64 y1])]) [] from by
   have h := K.out.tl.tl
   rw [HEQ.out.2.2.2, ← needP_step HQ.out HNN.out.1]
   exact h)
  go_roundg q
  case measure => omega
  case rel => exact ⟨by first | rfl | rw [hz1], by omega, K'⟩
end Go.Proofs.Ytcnpekpgghppnaa.Q
namespace Go.Proofs.Ytcnpekpgghppnaa.Q
open Go.RowKit Go.Proofs.YtcnpekpgghppnaaW.PrintWords Go.Proofs.YtcnpekpgghppnaaW.PrintLast Go.Proofs.YtcnpekpgghppnaaW.PrintMore
attribute [local go_sem] max2_int min2_int max_two min_two max_three min_three max_four min_four
set_option linter.unusedVariables false
set_option linter.unusedSimpArgs false
attribute [local go_sem high] eqA23
def rect_Contains.f (a0_0 : Int) (a0_1 : Int) (a0_2 : Int) (a0_3 : Int) (a1_0 : Int) (a1_1 : Int) (a1_2 : Int) (a1_3 : Int) : Option (Bool) := (rect_Empty.f a1_0 a1_1 a1_2 a1_3).bind fun t236 => (if t236 = true then (some true) else ((rect_Intersect.f a0_0 a0_1 a0_2 a0_3 a1_0 a1_1 a1_2 a1_3).bind fun bt237 => (some (bt237.1 == a1_0 && (bt237.2.1 == a1_1 && (bt237.2.2.1 == a1_2 && (bt237.2.2.2 == a1_3)))))))
def rect_Contains.T1 : Bool × List (List Nat × List Nat) := (true, [([], []), ([0], [0]), ([1, 1], [1]), ([2], [2]), ([2], [2]), ([3, 4, 2, 2], [2, 3, 4]), ([2], [2]), ([5, 6, 2], [2, 5, 6]), ([2, 7], [2, 7]), ([8, 5, 0, 1, 2, 3, 4, 5, 6, 7, 8], [8])])
def rect_Contains.B1 : List Nat := [0, 1, 3, 7, 7, 31, 7, 127, 255, 511]
theorem rect_Contains.tab1 : rtab .any (opsOf Try.f37 1) = rect_Contains.T1 := by kernel_rfl
theorem rect_Contains.bits1 : waitsOk rect_Contains.T1.2 rect_Contains.B1 = true := by kernel_rfl
set_option maxHeartbeats 8000000 in
set_option maxRecDepth 100000 in
theorem rect_Contains.calls (a0_0 : Int) (a0_1 : Int) (a0_2 : Int) (a0_3 : Int) (a1_0 : Int) (a1_1 : Int) (a1_2 : Int) (a1_3 : Int) (r : Bool) (w : World) (h : rect_Contains.f a0_0 a0_1 a0_2 a0_3 a1_0 a1_1 a1_2 a1_3 = some r) :
  Calls Try.prog 37 #[.agg #[.int .i64 a0_0, .int .i64 a0_1, .int .i64 a0_2, .int .i64 a0_3], .agg #[.int .i64 a1_0, .int .i64 a1_1, .int .i64 a1_2, .int .i64 a1_3]] w fun e w' => e = .returned (.bool r) ∧ Below w.heap.size w w' := by
 have hu23 := Try.underlying23
 have HB := Aside0.mk (Below.refl w.heap.size w)
 have H : ((rect_Empty.f a1_0 a1_1 a1_2 a1_3).bind fun t236 => (if t236 = true then (some true) else ((rect_Intersect.f a0_0 a0_1 a0_2 a0_3 a1_0 a1_1 a1_2 a1_3).bind fun bt237 => (some (bt237.1 == a1_0 && (bt237.2.1 == a1_1 && (bt237.2.2.1 == a1_2 && (bt237.2.2.2 == a1_3)))))))) = some r := h
 clear h
 replace H := Option.bind_eq_some_iff.mp H
 obtain ⟨t236, A30, H⟩ := H
 replace H : (if t236 = true then (some true) else ((rect_Intersect.f a0_0 a0_1 a0_2 a0_3 a1_0 a1_1 a1_2 a1_3).bind fun bt237 => (some (bt237.1 == a1_0 && (bt237.2.1 == a1_1 && (bt237.2.2.1 == a1_2 && (bt237.2.2.2 == a1_3))))))) = some r := H
 have A3 := Aside0.mk A30
 clear A30
 by_cases c4 : t236 = true
 ·subst c4
  have H1 : (some true) = some r := by rw [if_pos rfl] at H; exact H
  clear H
  have H := H1
  clear H1
  obtain rfl := Option.some.inj H
  go_enter Try.func37, Try.ntmps37
  try go_wp2_with (first | ((with_reducible refine gate_dst (N := 2) rfl ?_); refine bT (N := 2) (#[.int .i64 a0_0, .int .i64 a0_1, .int .i64 a0_2, .int .i64 a0_3]) 23 ?_; intro gb234 hg w5 hbox hb; have n0_ := Aside0.mk (below_step (by repeat (first | (with_reducible first | exact HB.out | apply below_alloc | apply pw_below_drewN | apply below_drew1) | exact HB.out)) hb); have n1_ := Aside0.mk (hbox); have n2_ := Aside0.mk ((by rw [hg]; exact (below_size (by repeat (first | (with_reducible first | exact HB.out | apply below_alloc | apply pw_below_drewN | apply below_drew1) | exact HB.out))) : w.heap.size ≤ gb234)); have n3_ := Aside0.mk ((by rw [hg]; exact (below_size (by repeat (first | (with_reducible first | exact HB.out | apply below_alloc | apply pw_below_drewN | apply below_drew1) | exact HB.out))) : w.heap.size ≤ gb234)); clear HB; have HB := n0_; have BK234 := n1_; have GW234 := n2_; have GE234 := n3_; clear n0_ n1_ n2_ n3_; clear hb hbox hg) | ((with_reducible refine gate_dst (N := 3) rfl ?_); refine bT (N := 3) (#[.int .i64 a1_0, .int .i64 a1_1, .int .i64 a1_2, .int .i64 a1_3]) 23 ?_; intro gb235 hg w6 hbox hb; have n0_ := Aside0.mk (blk_below (g := gb234) (o := .cells #[.int .i64 a0_0, .int .i64 a0_1, .int .i64 a0_2, .int .i64 a0_3] 23 (0, 0)) (by exact upK BK234.out) hb); have n1_ := Aside0.mk (below_step (by repeat (first | (with_reducible first | exact HB.out | apply below_alloc | apply pw_below_drewN | apply below_drew1 | refine below_set ?_ GE234.out) | exact HB.out)) hb); have n2_ := Aside0.mk (hbox); have n3_ := Aside0.mk ((by rw [hg]; exact (below_size (by repeat (first | (with_reducible first | exact HB.out | apply below_alloc | apply pw_below_drewN | apply below_drew1 | refine below_set ?_ GE234.out) | exact HB.out))) : w.heap.size ≤ gb235)); have n4_ := Aside0.mk ((by rw [hg]; exact (below_size (by repeat (first | (with_reducible first | exact HB.out | apply below_alloc | apply pw_below_drewN | apply below_drew1 | refine below_set ?_ GE234.out) | exact HB.out))) : w.heap.size ≤ gb235)); have n5_ := Aside0.mk ((by rw [hg]; exact Nat.ne_of_lt (blk_lt (g := gb234) (o := .cells #[.int .i64 a0_0, .int .i64 a0_1, .int .i64 a0_2, .int .i64 a0_3] 23 (0, 0)) (by exact upK BK234.out)) : gb234 ≠ gb235)); have n6_ := Aside0.mk ((by rw [hg]; exact Nat.ne_of_gt (blk_lt (g := gb234) (o := .cells #[.int .i64 a0_0, .int .i64 a0_1, .int .i64 a0_2, .int .i64 a0_3] 23 (0, 0)) (by exact upK BK234.out)) : gb235 ≠ gb234)); clear BK234; clear HB; have BK234 := n0_; have HB := n1_; have BK235 := n2_; have GW235 := n3_; have GE235 := n4_; have NB234_235 := n5_; have NB235_234 := n6_; clear n0_ n1_ n2_ n3_ n4_ n5_ n6_; clear hb hbox hg))
  have n0_ := Aside0.mk (blk_drew BK234.out)
  have n1_ := Aside0.mk (blk_drew BK235.out)
  have n2_ := Aside0.mk (below_drew1 HB.out)
  clear BK234
  clear BK235
  clear HB
  have BK234 := n0_
  have BK235 := n1_
  have HB := n2_
  clear n0_ n1_ n2_
  refine start_ (n := 10) (S := fun w' => w'.cell? ⟨gb235, 0, none⟩ = some (.int .i64 a1_0) ∧ w'.cell? ⟨gb235, 1, none⟩ = some (.int .i64 a1_1) ∧ w'.cell? ⟨gb235, 2, none⟩ = some (.int .i64 a1_2) ∧ w'.cell? ⟨gb235, 3, none⟩ = some (.int .i64 a1_3)) (ds := []) #[false, false, false, false, false, false, false, false, false, false] (by kernel_rfl) rfl rfl ⟨(blk_cell BK235.out 0).trans rfl, (blk_cell BK235.out 1).trans rfl, (blk_cell BK235.out 2).trans rfl, (blk_cell BK235.out 3).trans rfl⟩ (fun hHeld => ?_); refine with_tabW rect_Contains.tab1 rect_Contains.bits1 (fun HT_ HW_ => ?_)
  generalize w6.drew = w7 at BK234 BK235 HB hHeld ⊢
  refine take_ (i := 0) (N := some 5) (v := ?_) (a' := ?_) #[true, false, false, false, false, false, false, false, false, false] rfl rfl (take_ofW HT_.out HW_.out (by kernel_rfl)) (fun _ _ _ h => h) (Or.inl ⟨by rfl, ?_⟩) hHeld ?_ ?_
  rotate_left
  ·rintro w' ⟨s0, s1, s2, s3⟩
   go_simp
   with_reducible rfl
  rotate_left
  ·simp only [Act.put, List.setIfInBounds_toArray, List.set_cons_zero, List.set_cons_succ, i64_w, i32_w]
   rfl
  refine one_ (i := 1) (N := some 6) #[true, true, false, false, false, false, false, false, false, false] rfl rfl (one_of HT_.out (by kernel_rfl)) (by decide) (fun K hK => ?_)
  refine goes_ Try.func34 (by kernel_rfl) rfl #[.agg #[.int .i64 a1_0, .int .i64 a1_1, .int .i64 a1_2, .int .i64 a1_3]] (by rfl) rfl rfl (by (try simp only [List.map_toArray, List.map_cons, List.map_nil]); first | done | rfl | (simp only [List.length_drop, List.length_take]; rfl)) ?_
  with_reducible refine (rect_Empty.calls a1_0 a1_1 a1_2 a1_3 true _ A3.out).mono ?_
  rintro e w8 ⟨rfl, hb⟩
  refine ⟨_, rfl, ?_⟩
  have n0_ := Aside0.mk (blk_below (g := gb234) (o := .cells #[.int .i64 a0_0, .int .i64 a0_1, .int .i64 a0_2, .int .i64 a0_3] 23 (0, 0)) (by exact upK BK234.out) hb)
  have n1_ := Aside0.mk (blk_below (g := gb235) (o := .cells #[.int .i64 a1_0, .int .i64 a1_1, .int .i64 a1_2, .int .i64 a1_3] 23 (0, 0)) (by exact upK BK235.out) hb)
  have n2_ := Aside0.mk (below_step (by repeat (first | (with_reducible first | exact HB.out | apply below_alloc | apply pw_below_drewN | apply below_drew1 | refine below_set ?_ GE234.out | refine below_set ?_ GE235.out) | exact HB.out)) hb)
  clear BK234
  clear BK235
  clear HB
  have BK234 := n0_
  have BK235 := n1_
  have HB := n2_
  clear n0_ n1_ n2_
  (try clear hb)
  (try clear hb2)
  (try clear hk)
  (try clear hi)
  refine hK.out _ _ ⟨(blk_cell BK235.out 0).trans rfl, (blk_cell BK235.out 1).trans rfl, (blk_cell BK235.out 2).trans rfl, (blk_cell BK235.out 3).trans rfl⟩ (fun hHeld => ?_)
  clear hK K
  refine nT ?_
  refine pTT (i := 2) (N := some 7) HT_.out ?_
  refine pure_ (i := 3) (N := some 8) (v := undef) (a' := ?_) #[true, true, true, true, false, false, false, false, false, false] rfl rfl (any_of HT_.out (by kernel_rfl)) (fun _ _ _ h => h) (Or.inr ⟨by rfl, rfl⟩) ?_ ?_
  rotate_left
  ·simp only [Act.put, List.setIfInBounds_toArray, List.set_cons_zero, List.set_cons_succ, i64_w, i32_w]
   rfl
  refine pure_ (i := 4) (N := some 9) (v := undef) (a' := ?_) #[true, true, true, true, true, false, false, false, false, false] rfl rfl (any_of HT_.out (by kernel_rfl)) (fun _ _ _ h => h) (Or.inr ⟨by rfl, rfl⟩) ?_ ?_
  rotate_left
  ·simp only [Act.put, List.setIfInBounds_toArray, List.set_cons_zero, List.set_cons_succ, i64_w, i32_w]
   rfl
  refine pure_ (i := 5) (N := some 10) (v := undef) (a' := ?_) #[true, true, true, true, true, true, false, false, false, false] rfl rfl (any_of HT_.out (by kernel_rfl)) (fun _ _ _ h => h) (Or.inr ⟨by rfl, rfl⟩) ?_ ?_
  rotate_left
  ·simp only [Act.put, List.setIfInBounds_toArray, List.set_cons_zero, List.set_cons_succ, i64_w, i32_w]
   rfl
  refine pure_ (i := 6) (N := some 11) (v := undef) (a' := ?_) #[true, true, true, true, true, true, true, false, false, false] rfl rfl (any_of HT_.out (by kernel_rfl)) (fun _ _ _ h => h) (Or.inr ⟨by rfl, rfl⟩) ?_ ?_
  rotate_left
  ·simp only [Act.put, List.setIfInBounds_toArray, List.set_cons_zero, List.set_cons_succ, i64_w, i32_w]
   rfl
  refine pure_ (i := 7) (N := some 12) (v := undef) (a' := ?_) #[true, true, true, true, true, true, true, true, false, false] rfl rfl (any_of HT_.out (by kernel_rfl)) (fun _ _ _ h => h) (Or.inr ⟨by rfl, rfl⟩) ?_ ?_
  rotate_left
  ·simp only [Act.put, List.setIfInBounds_toArray, List.set_cons_zero, List.set_cons_succ, i64_w, i32_w]
   rfl
  refine pTT (i := 8) (N := some 13) HT_.out ?_
  refine pTT (i := 9) (N := some 4) HT_.out ?_
  refine done_ (done_of HT_.out (by kernel_rfl)) ?_
  try go_wp2
  go_ret
  exact ⟨by first | rfl | (simp [errW_none, errW_some] <;> rfl) | (simp [*, errW_none, errW_some] <;> rfl), by repeat (first | (with_reducible first | exact HB.out | apply below_alloc | apply pw_below_drewN | apply below_drew1 | refine below_set ?_ GE234.out | refine below_set ?_ GE235.out) | exact HB.out)⟩
 ·replace c4 := Bool.eq_false_iff.mpr c4
  subst c4
  have H1 : ((rect_Intersect.f a0_0 a0_1 a0_2 a0_3 a1_0 a1_1 a1_2 a1_3).bind fun bt237 => (some (bt237.1 == a1_0 && (bt237.2.1 == a1_1 && (bt237.2.2.1 == a1_2 && (bt237.2.2.2 == a1_3)))))) = some r := by rw [if_neg (show ¬ (false = true) by decide)] at H; exact H
  clear H
  have H := H1
  clear H1
  replace H := Option.bind_eq_some_iff.mp H
  obtain ⟨⟨t237, t238, t239, t240⟩, A90, H⟩ := H
  replace H : (some (t237 == a1_0 && (t238 == a1_1 && (t239 == a1_2 && (t240 == a1_3))))) = some r := H
  have A9 := Aside0.mk A90
  clear A90
  obtain rfl := Option.some.inj H
  go_enter Try.func37, Try.ntmps37
  try go_wp2_with (first | ((with_reducible refine gate_dst (N := 2) rfl ?_); refine bT (N := 2) (#[.int .i64 a0_0, .int .i64 a0_1, .int .i64 a0_2, .int .i64 a0_3]) 23 ?_; intro gb234 hg w10 hbox hb; have n0_ := Aside0.mk (below_step (by repeat (first | (with_reducible first | exact HB.out | apply below_alloc | apply pw_below_drewN | apply below_drew1) | exact HB.out)) hb); have n1_ := Aside0.mk (hbox); have n2_ := Aside0.mk ((by rw [hg]; exact (below_size (by repeat (first | (with_reducible first | exact HB.out | apply below_alloc | apply pw_below_drewN | apply below_drew1) | exact HB.out))) : w.heap.size ≤ gb234)); have n3_ := Aside0.mk ((by rw [hg]; exact (below_size (by repeat (first | (with_reducible first | exact HB.out | apply below_alloc | apply pw_below_drewN | apply below_drew1) | exact HB.out))) : w.heap.size ≤ gb234)); clear HB; have HB := n0_; have BK234 := n1_; have GW234 := n2_; have GE234 := n3_; clear n0_ n1_ n2_ n3_; clear hb hbox hg) | ((with_reducible refine gate_dst (N := 3) rfl ?_); refine bT (N := 3) (#[.int .i64 a1_0, .int .i64 a1_1, .int .i64 a1_2, .int .i64 a1_3]) 23 ?_; intro gb235 hg w11 hbox hb; have n0_ := Aside0.mk (blk_below (g := gb234) (o := .cells #[.int .i64 a0_0, .int .i64 a0_1, .int .i64 a0_2, .int .i64 a0_3] 23 (0, 0)) (by exact upK BK234.out) hb); have n1_ := Aside0.mk (below_step (by repeat (first | (with_reducible first | exact HB.out | apply below_alloc | apply pw_below_drewN | apply below_drew1 | refine below_set ?_ GE234.out) | exact HB.out)) hb); have n2_ := Aside0.mk (hbox); have n3_ := Aside0.mk ((by rw [hg]; exact (below_size (by repeat (first | (with_reducible first | exact HB.out | apply below_alloc | apply pw_below_drewN | apply below_drew1 | refine below_set ?_ GE234.out) | exact HB.out))) : w.heap.size ≤ gb235)); have n4_ := Aside0.mk ((by rw [hg]; exact (below_size (by repeat (first | (with_reducible first | exact HB.out | apply below_alloc | apply pw_below_drewN | apply below_drew1 | refine below_set ?_ GE234.out) | exact HB.out))) : w.heap.size ≤ gb235)); have n5_ := Aside0.mk ((by rw [hg]; exact Nat.ne_of_lt (blk_lt (g := gb234) (o := .cells #[.int .i64 a0_0, .int .i64 a0_1, .int .i64 a0_2, .int .i64 a0_3] 23 (0, 0)) (by exact upK BK234.out)) : gb234 ≠ gb235)); have n6_ := Aside0.mk ((by rw [hg]; exact Nat.ne_of_gt (blk_lt (g := gb234) (o := .cells #[.int .i64 a0_0, .int .i64 a0_1, .int .i64 a0_2, .int .i64 a0_3] 23 (0, 0)) (by exact upK BK234.out)) : gb235 ≠ gb234)); clear BK234; clear HB; have BK234 := n0_; have HB := n1_; have BK235 := n2_; have GW235 := n3_; have GE235 := n4_; have NB234_235 := n5_; have NB235_234 := n6_; clear n0_ n1_ n2_ n3_ n4_ n5_ n6_; clear hb hbox hg))
  have n0_ := Aside0.mk (blk_drew BK234.out)
  have n1_ := Aside0.mk (blk_drew BK235.out)
  have n2_ := Aside0.mk (below_drew1 HB.out)
  clear BK234
  clear BK235
  clear HB
  have BK234 := n0_
  have BK235 := n1_
  have HB := n2_
  clear n0_ n1_ n2_
  refine start_ (n := 10) (S := fun w' => w'.cell? ⟨gb235, 0, none⟩ = some (.int .i64 a1_0) ∧ w'.cell? ⟨gb235, 1, none⟩ = some (.int .i64 a1_1) ∧ w'.cell? ⟨gb235, 2, none⟩ = some (.int .i64 a1_2) ∧ w'.cell? ⟨gb235, 3, none⟩ = some (.int .i64 a1_3) ∧ w'.cell? ⟨gb234, 0, none⟩ = some (.int .i64 a0_0) ∧ w'.cell? ⟨gb234, 1, none⟩ = some (.int .i64 a0_1) ∧ w'.cell? ⟨gb234, 2, none⟩ = some (.int .i64 a0_2) ∧ w'.cell? ⟨gb234, 3, none⟩ = some (.int .i64 a0_3)) (ds := []) #[false, false, false, false, false, false, false, false, false, false] (by kernel_rfl) rfl rfl ⟨(blk_cell BK235.out 0).trans rfl, (blk_cell BK235.out 1).trans rfl, (blk_cell BK235.out 2).trans rfl, (blk_cell BK235.out 3).trans rfl, (blk_cell BK234.out 0).trans rfl, (blk_cell BK234.out 1).trans rfl, (blk_cell BK234.out 2).trans rfl, (blk_cell BK234.out 3).trans rfl⟩ (fun hHeld => ?_); refine with_tabW rect_Contains.tab1 rect_Contains.bits1 (fun HT_ HW_ => ?_)
  generalize w11.drew = w12 at BK234 BK235 HB hHeld ⊢
  refine take_ (i := 0) (N := some 5) (v := ?_) (a' := ?_) #[true, false, false, false, false, false, false, false, false, false] rfl rfl (take_ofW HT_.out HW_.out (by kernel_rfl)) (fun _ _ _ h => h) (Or.inl ⟨by rfl, ?_⟩) hHeld ?_ ?_
  rotate_left
  ·rintro w' ⟨s0, s1, s2, s3, s4, s5, s6, s7⟩
   go_simp
   with_reducible rfl
  rotate_left
  ·simp only [Act.put, List.setIfInBounds_toArray, List.set_cons_zero, List.set_cons_succ, i64_w, i32_w]
   rfl
  refine one_ (i := 1) (N := some 6) #[true, true, false, false, false, false, false, false, false, false] rfl rfl (one_of HT_.out (by kernel_rfl)) (by decide) (fun K hK => ?_)
  refine goes_ Try.func34 (by kernel_rfl) rfl #[.agg #[.int .i64 a1_0, .int .i64 a1_1, .int .i64 a1_2, .int .i64 a1_3]] (by rfl) rfl rfl (by (try simp only [List.map_toArray, List.map_cons, List.map_nil]); first | done | rfl | (simp only [List.length_drop, List.length_take]; rfl)) ?_
  with_reducible refine (rect_Empty.calls a1_0 a1_1 a1_2 a1_3 false _ A3.out).mono ?_
  rintro e w13 ⟨rfl, hb⟩
  refine ⟨_, rfl, ?_⟩
  have n0_ := Aside0.mk (blk_below (g := gb234) (o := .cells #[.int .i64 a0_0, .int .i64 a0_1, .int .i64 a0_2, .int .i64 a0_3] 23 (0, 0)) (by exact upK BK234.out) hb)
  have n1_ := Aside0.mk (blk_below (g := gb235) (o := .cells #[.int .i64 a1_0, .int .i64 a1_1, .int .i64 a1_2, .int .i64 a1_3] 23 (0, 0)) (by exact upK BK235.out) hb)
  have n2_ := Aside0.mk (below_step (by repeat (first | (with_reducible first | exact HB.out | apply below_alloc | apply pw_below_drewN | apply below_drew1 | refine below_set ?_ GE234.out | refine below_set ?_ GE235.out) | exact HB.out)) hb)
  clear BK234
  clear BK235
  clear HB
  have BK234 := n0_
  have BK235 := n1_
  have HB := n2_
  clear n0_ n1_ n2_
  (try clear hb)
  (try clear hb2)
  (try clear hk)
  (try clear hi)
  refine hK.out _ _ ⟨(blk_cell BK235.out 0).trans rfl, (blk_cell BK235.out 1).trans rfl, (blk_cell BK235.out 2).trans rfl, (blk_cell BK235.out 3).trans rfl, (blk_cell BK234.out 0).trans rfl, (blk_cell BK234.out 1).trans rfl, (blk_cell BK234.out 2).trans rfl, (blk_cell BK234.out 3).trans rfl⟩ (fun hHeld => ?_)
  clear hK K
  refine nT ?_
  refine pTT (i := 2) (N := some 7) HT_.out ?_
  refine take_ (i := 3) (N := some 8) (v := ?_) (a' := ?_) #[true, true, true, true, false, false, false, false, false, false] rfl rfl (take_ofW HT_.out HW_.out (by kernel_rfl)) (fun _ _ _ h => h) (Or.inl ⟨by rfl, ?_⟩) hHeld ?_ ?_
  rotate_left
  ·rintro w' ⟨s0, s1, s2, s3, s4, s5, s6, s7⟩
   go_simp
   with_reducible rfl
  rotate_left
  ·simp only [Act.put, List.setIfInBounds_toArray, List.set_cons_zero, List.set_cons_succ, i64_w, i32_w]
   rfl
  refine take_ (i := 4) (N := some 9) (v := ?_) (a' := ?_) #[true, true, true, true, true, false, false, false, false, false] rfl rfl (take_ofW HT_.out HW_.out (by kernel_rfl)) (fun _ _ _ h => h) (Or.inl ⟨by rfl, ?_⟩) hHeld ?_ ?_
  rotate_left
  ·rintro w' ⟨s0, s1, s2, s3, s4, s5, s6, s7⟩
   go_simp
   with_reducible rfl
  rotate_left
  ·simp only [Act.put, List.setIfInBounds_toArray, List.set_cons_zero, List.set_cons_succ, i64_w, i32_w]
   rfl
  refine take_ (i := 6) (N := some 11) (v := ?_) (a' := ?_) #[true, true, true, true, true, false, true, false, false, false] rfl rfl (take_ofW HT_.out HW_.out (by kernel_rfl)) (fun _ _ _ h => h) (Or.inl ⟨by rfl, ?_⟩) hHeld ?_ ?_
  rotate_left
  ·rintro w' ⟨s0, s1, s2, s3, s4, s5, s6, s7⟩
   go_simp
   with_reducible rfl
  rotate_left
  ·simp only [Act.put, List.setIfInBounds_toArray, List.set_cons_zero, List.set_cons_succ, i64_w, i32_w]
   rfl
  refine one_ (i := 5) (N := some 10) #[true, true, true, true, true, true, true, false, false, false] rfl rfl (one_of HT_.out (by kernel_rfl)) (by decide) (fun K hK => ?_)
  refine goes_ Try.func32 (by kernel_rfl) rfl #[.agg #[.int .i64 a0_0, .int .i64 a0_1, .int .i64 a0_2, .int .i64 a0_3], .agg #[.int .i64 a1_0, .int .i64 a1_1, .int .i64 a1_2, .int .i64 a1_3]] (by rfl) rfl rfl (by (try simp only [List.map_toArray, List.map_cons, List.map_nil]); first | done | rfl | (simp only [List.length_drop, List.length_take]; rfl)) ?_
  with_reducible refine (rect_Intersect.calls a0_0 a0_1 a0_2 a0_3 a1_0 a1_1 a1_2 a1_3 t237 t238 t239 t240 _ A9.out).mono ?_
  rintro e w14 ⟨rfl, hb⟩
  refine ⟨_, rfl, ?_⟩
  have n0_ := Aside0.mk (blk_below (g := gb234) (o := .cells #[.int .i64 a0_0, .int .i64 a0_1, .int .i64 a0_2, .int .i64 a0_3] 23 (0, 0)) (by exact upK BK234.out) hb)
  have n1_ := Aside0.mk (blk_below (g := gb235) (o := .cells #[.int .i64 a1_0, .int .i64 a1_1, .int .i64 a1_2, .int .i64 a1_3] 23 (0, 0)) (by exact upK BK235.out) hb)
  have n2_ := Aside0.mk (below_step (by repeat (first | (with_reducible first | exact HB.out | apply below_alloc | apply pw_below_drewN | apply below_drew1 | refine below_set ?_ GE234.out | refine below_set ?_ GE235.out) | exact HB.out)) hb)
  clear BK234
  clear BK235
  clear HB
  have BK234 := n0_
  have BK235 := n1_
  have HB := n2_
  clear n0_ n1_ n2_
  (try clear hb)
  (try clear hb2)
  (try clear hk)
  (try clear hi)
  refine hK.out _ _ ⟨(blk_cell BK235.out 0).trans rfl, (blk_cell BK235.out 1).trans rfl, (blk_cell BK235.out 2).trans rfl, (blk_cell BK235.out 3).trans rfl, (blk_cell BK234.out 0).trans rfl, (blk_cell BK234.out 1).trans rfl, (blk_cell BK234.out 2).trans rfl, (blk_cell BK234.out 3).trans rfl⟩ (fun hHeld => ?_)
  clear hK K
  refine nT ?_
  refine pTT (i := 7) (N := some 12) HT_.out ?_
  refine pTT (i := 8) (N := some 13) HT_.out ?_
  refine pTT (i := 9) (N := some 4) HT_.out ?_
  refine done_ (done_of HT_.out (by kernel_rfl)) ?_
  try go_wp2
  go_ret
  exact ⟨by first | rfl | (simp [errW_none, errW_some] <;> rfl) | (simp [*, errW_none, errW_some] <;> rfl), by repeat (first | (with_reducible first | exact HB.out | apply below_alloc | apply pw_below_drewN | apply below_drew1 | refine below_set ?_ GE234.out | refine below_set ?_ GE235.out) | exact HB.out)⟩
end Go.Proofs.Ytcnpekpgghppnaa.Q
namespace Go.Proofs.Ytcnpekpgghppnaa.Q
open Go.RowKit Go.Proofs.YtcnpekpgghppnaaW.PrintWords Go.Proofs.YtcnpekpgghppnaaW.PrintLast Go.Proofs.YtcnpekpgghppnaaW.PrintMore
set_option linter.unusedVariables false
set_option linter.unusedSimpArgs false
structure Back2 (n : Nat) (w0 W : World) (v : Value) (qs : List (Value × Pl)) : Prop where
 row : Kd.R rawP 26 W n (fun _ => True) v (qs.map pcells)
 hold : Hold n w0 W [] (rowsOf qs.reverse)
theorem Back2.nil (w : World) : Back2 w.heap.size w w (.slice none 0 0) [] := ⟨Kd.R_nil _ _ _ _ _, Hold.nil w⟩
theorem Back2.call {n : Nat} {w0 W W' : World} {v : Value} {qs : List (Value × Pl)} (h : Back2 n w0 W v qs) (hn : n ≤ W.heap.size) (hb : Below W.heap.size W W') : Back2 n w0 W' v qs :=
 ⟨Kd.R_below h.row hb, h.hold.call hn hb⟩
theorem Back2.add {n : Nat} {w0 W1 W W' : World} {v v' : Value} {qs : List (Value × Pl)} {q : Value × Pl} (h : Back2 n w0 W1 v qs) (hn : n ≤ W1.heap.size) (hq : Hold W1.heap.size W1 W [] [(q.1, q.2.D)]) (hR : Kd.R rawP 26 W' n (fun _ => True) v' (qs.map pcells ++ [pcells q])) (hB : Below n w0 W') (hg : W.grownBy W' v.ownBlock) : Back2 n w0 W' v' (qs ++ [q]) := by
 refine ⟨by rw [List.map_append]; exact hR, ?_⟩
 have hj := h.hold.join hn hq
 have hr := Kd.R_below h.row hq.below
 rw [List.reverse_append]
 refine Hold.moved (r := rowsOf ([q].reverse ++ qs.reverse)) hj ⟨fun i b h => by simp at h, fun i j b c _ h => by simp at h, fun i b h => by simp at h, hB⟩ fun i p hi k hk => ?_
 have hp := hj.row i p hi
 refine hg.block k (Kd.R_lt hp k hk) fun e => ?_
 obtain ⟨cells, hc⟩ := Kd.R_typed hr k e.symm
 exact Kd.R_ne hp hc (by decide) hk.symm
/-- A built slice of nothing. -/
theorem built_none (w : World) : Kd.R (Kd.int .i64) 3 (w.alloc (.cells #[] 3)) w.heap.size (fun _ => True) (.slice (some ⟨w.heap.size, 0, none⟩) 0 0) [] := by
 have h := World.ownsRow_lit (base := w.heap.size) (e := 3) (size := 1) w #[] 0 (Nat.le_refl _) (by decide) rfl
 exact ⟨fun _ _ => trivial, [], h, Reps.none _ _⟩
end Go.Proofs.Ytcnpekpgghppnaa.Q
namespace Go.Proofs.Ytcnpekpgghppnaa.Q
open Go.RowKit Go.Proofs.YtcnpekpgghppnaaW.PrintWords Go.Proofs.YtcnpekpgghppnaaW.PrintLast Go.Proofs.YtcnpekpgghppnaaW.PrintMore
set_option linter.unusedVariables false
set_option linter.unusedSimpArgs false
set_option maxHeartbeats 8000000 in
set_option maxRecDepth 100000 in
theorem plane_Crop.good (k m d : Nat) (s0 t0 s1 t1 r0 u0 r1 u1 : Int) (A : Option Addr) (S X1 : List Int) (w : World)
  (hC : Kd.C (Kd.int .i64) w A S.length S) (hd : S.length ≤ d) (hv : PV s0 t0 s1 t1 S) (hrv : rect_Valid.f r0 u0 r1 u1 = some true) (hrc : rect_Contains.f s0 t0 s1 t1 r0 u0 r1 u1 = some true) (hre : rect_Empty.f r0 u0 r1 u1 = some false) (har : rect_Area.f r0 u0 r1 u1 = some (m : Int)) (hm : 0 < m ∧ m ≤ 1048576 ∧ (m : Int) = (r1 - r0) * (u1 - u0)) (hin : (s0 ≤ r0 ∧ r0 ≤ r1 ∧ r1 ≤ s1) ∧ (t0 ≤ u0 ∧ u0 ≤ u1 ∧ u1 ≤ t1)) (hF : partF (r1 - r0) (s1 - s0) r0 u0 s0 t0 r0 r1 u1 S k u0 (List.replicate m 0) = some X1) :
  Calls Try.prog 14 #[.agg #[.int .i64 s0, .int .i64 t0, .int .i64 s1, .int .i64 t1, .slice A S.length d], .agg #[.int .i64 r0, .int .i64 u0, .int .i64 r1, .int .i64 u1]] w fun e w' => ∃ v : Value, e = .returned (.tuple #[.agg #[.int .i64 r0, .int .i64 u0, .int .i64 r1, .int .i64 u1, v], .int .i64 0]) ∧ Kd.R (Kd.int .i64) 3 w' w.heap.size (fun _ => True) v X1 ∧ Below w.heap.size w w' := by
 have HC := Aside0.mk hC
 have HD := Aside0.mk hd
 have HV := Aside0.mk hv
 have HRV := Aside0.mk hrv
 have HRC := Aside0.mk hrc
 have HRE := Aside0.mk hre
 have HAR := Aside0.mk har
 have HM := Aside0.mk hm
 have HIN := Aside0.mk hin
 have HF := Aside0.mk hF
 clear hC hd hv hrv hrc hre har hm hin hF
 have K00 := Aside0.mk (Hold.nil w)
 go_enter Try.func14, Try.ntmps14
 go_upto_region 5 with (first
  | ((with_reducible refine gate_dst (N := 2) rfl ?_); refine bT (N := 2) (#[.int .i64 s0, .int .i64 t0, .int .i64 s1, .int .i64 t1, .slice A S.length d]) 26 ?_; intro g2 hg W2 hbox hb; have K1 := Aside0.mk (K00.out.box (Nat.le_refl _) hg hbox hb trivial); clear hg hbox hb K00)
  | ((with_reducible refine gate_dst (N := 3) rfl ?_); refine bT (N := 3) (#[.int .i64 r0, .int .i64 u0, .int .i64 r1, .int .i64 u1]) 23 ?_; intro g3 hg W3 hbox hb; have K2 := Aside0.mk (K1.out.box (below_size K1.out.below) hg hbox hb trivial); clear hg hbox hb K1)
  | ((with_reducible refine gate_dst (N := 4) rfl ?_); refine bT (N := 4) (#[.int .i64 0, .int .i64 0, .int .i64 0, .int .i64 0, .slice none 0 0]) 26 ?_; intro g4 hg W4 hbox hb; have K := Aside0.mk (K2.out.box (below_size K2.out.below) hg hbox hb trivial); clear hg hbox hb K2)
  | ((with_reducible refine gate_dst (N := 7) rfl ?_); refine load_ev rfl 26 (.tmp 2) rfl rfl (K.out.get 2 rfl) Try.underlying26 rfl ?_)
  | (go_at_call 25; (with_reducible refine (plane_Valid.calls s0 t0 s1 t1 A d S true _ (Kd.C_below HC.out K.out.below) HD.out HV.out.valid).mono ?_); rintro _ w25 ⟨rfl, b⟩; replace K := Aside0.mk (K.out.call (below_size K.out.below) b); clear b)
  | ((with_reducible refine gate_dst (N := 11) rfl ?_); refine load_ev rfl 23 (.tmp 3) rfl rfl (K.out.get 1 rfl) Try.underlying23 rfl ?_)
  | (go_at_call 31; (with_reducible refine (rect_Valid.calls r0 u0 r1 u1 true _ HRV.out).mono ?_); rintro _ w31 ⟨rfl, b⟩; replace K := Aside0.mk (K.out.call (below_size K.out.below) b); clear b)
  | ((with_reducible refine gate_dst (N := 16) rfl ?_); (try (refine gate_guard (by rfl) ?_; dsimp only)); refine load_mid_ev (i := 0) (cs := #[.int .i64 s0, .int .i64 t0, .int .i64 s1, .int .i64 t1]) rfl 23 (.tmp 15) rfl rfl (K.out.get 2 rfl) (fun j v hj => by rcases j with _ | _ | _ | _ | j <;> first | exact hj | (simp at hj)) Try.underlying23 rfl rfl ?_)
  | ((with_reducible refine gate_dst (N := 17) rfl ?_); (try (refine gate_guard (by rfl) ?_; dsimp only)); refine load_ev rfl 23 (.tmp 3) rfl rfl (K.out.get 1 rfl) Try.underlying23 rfl ?_)
  | ((try (refine gate_guard (by rfl) ?_; dsimp only)); go_at_call 37; (with_reducible refine (rect_Contains.calls s0 t0 s1 t1 r0 u0 r1 u1 true _ HRC.out).mono ?_); rintro _ w37 ⟨rfl, b⟩; replace K := Aside0.mk (K.out.call (below_size K.out.below) b); clear b))
 go_cut [6] (fun v6 wc => ∃ (g6 : Nat) (A9 : Option Addr) (c9 : Nat), v6 = .pointer (some ⟨g6, 0, none⟩) ∧ Aside0 (Hold w.heap.size w wc [(g6, 26, #[.int .i64 r0, .int .i64 u0, .int .i64 r1, .int .i64 u1, .slice A9 m c9]), (g4, 26, #[.int .i64 0, .int .i64 0, .int .i64 0, .int .i64 0, .slice none 0 0]), (g3, 23, #[.int .i64 r0, .int .i64 u0, .int .i64 r1, .int .i64 u1]), (g2, 26, #[.int .i64 s0, .int .i64 t0, .int .i64 s1, .int .i64 t1, .slice A S.length d])] [(.slice A9 m c9, List.replicate m 0)]))
 case first =>
  replace K := Aside0.mk (K.out.drew)
  refine start_ (n := 7) (S := fun w' => w'.heap[g3]? = some (.cells #[.int .i64 r0, .int .i64 u0, .int .i64 r1, .int .i64 u1] 23 (0, 0))) (ds := [6]) #[false, false, false, false, false, false, false] (by kernel_rfl) rfl rfl (K.out.get 1 rfl) (fun hHeld0 => ?_)
  generalize hw2 : w37.drew = w2 at *
  clear hw2
  have hHeld := Aside0.mk hHeld0
  clear hHeld0
  refine take_ (i := 0) (N := some 22) (v := .agg #[.int .i64 r0, .int .i64 u0, .int .i64 r1, .int .i64 u1]) (a' := ?_) #[true, false, false, false, false, false, false] rfl rfl (by kernel_rfl) (fun _ _ _ h => h) (load_all_yields (by rfl) 23 (.tmp 3) rfl rfl (fun _ h => h) Try.underlying23 rfl rfl) hHeld.out ?_ ?_
  rotate_left
  ·simp only [Act.put, List.setIfInBounds_toArray, List.set_cons_zero, List.set_cons_succ, i64_w, i32_w]
   rfl
  refine take_ (i := 1) (N := some 23) (v := .agg #[.int .i64 r0, .int .i64 u0, .int .i64 r1, .int .i64 u1]) (a' := ?_) #[true, true, false, false, false, false, false] rfl rfl (by kernel_rfl) (fun _ _ _ h => h) (load_all_yields (by rfl) 23 (.tmp 3) rfl rfl (fun _ h => h) Try.underlying23 rfl rfl) hHeld.out ?_ ?_
  rotate_left
  ·simp only [Act.put, List.setIfInBounds_toArray, List.set_cons_zero, List.set_cons_succ, i64_w, i32_w]
   rfl
  refine two_ (i := 2) (j := 5) (Ni := some 24) (Nj := some 6) #[true, true, true, false, false, false, false] #[true, true, false, false, false, true, false] rfl rfl rfl rfl (by kernel_rfl) (by decide) (by decide) (fun KC hK => ?_) (fun KC hK => ?_)
  ·skip
   refine goes_ Try.func36 (by kernel_rfl) rfl #[.agg #[.int .i64 r0, .int .i64 u0, .int .i64 r1, .int .i64 u1]] (by rfl) rfl rfl (by simp only [List.map_toArray, List.map_cons, List.map_nil]; rfl) ?_
   refine (rect_Area.calls r0 u0 r1 u1 (m : Int) _ HAR.out).mono ?_
   rintro _ w5 ⟨rfl, bb⟩
   refine ⟨_, rfl, ?_⟩
   replace K := Aside0.mk (K.out.call (below_size K.out.below) bb)
   clear bb hHeld
   refine hK.out _ _ (K.out.get 1 rfl) (fun hHeld0 => ?_)
   have hHeld := Aside0.mk hHeld0
   clear hHeld0
   clear hK KC
   refine nT ?_
   refine two_ (i := 3) (j := 5) (Ni := some 25) (Nj := some 6) #[true, true, true, true, false, false, false] #[true, true, true, false, false, true, false] rfl rfl rfl rfl (by kernel_rfl) (by decide) (by decide) (fun KC hK => ?_) (fun KC hK => ?_)
   ·skip
    refine R_make_cap_step (Kd.int .i64) (w0 := _) _ 3 (by rfl) (N := 25) rfl 24 (.tmp 24) (.tmp 24) rfl .i64 .i64 (m : Int) (m : Int) rfl rfl Try.underlying24 (.int .i64 0) 8 info3 rfl (by decide) (by omega) (0 : Int) (okp := fun _ => False) (ok := fun _ => True) rfl (fun _ h => h.elim) trivial (by omega) (by omega) (by have := HM.out; omega) (Below.refl _ _) (Nat.le_refl _) ?_
    intro v9 w6 ho _ hb _
    obtain ⟨A9, c9, e9⟩ := Kd.R_slice ho
    rw [Int.toNat_natCast] at ho
    rw [Int.toNat_natCast, List.length_replicate] at e9
    subst e9
    replace K := Aside0.mk (K.out.add (below_size K.out.below) ho hb)
    clear ho hb hHeld
    refine hK.out _ _ (K.out.get 1 rfl) (fun hHeld0 => ?_)
    have hHeld := Aside0.mk hHeld0
    clear hHeld0
    clear hK KC
    refine nT ?_
    refine pT (i := 4) (N := some 26) ?_
    refine one_ (i := 5) (N := some 6) #[true, true, true, true, true, true, false] rfl rfl (by kernel_rfl) (by decide) (fun KC hK => ?_)
    refine box_step ?hg (N := 6) ?hd (cs := #[.int .i64 0, .int .i64 0, .int .i64 0, .int .i64 0, .slice none 0 0]) (t := 26) ?hr ?_
    case hd => rfl
    case hg => rfl
    case hr => first | (go_simp; done) | (go_simp; rfl)
    intro g6 hg w7 hbox hb
    replace K := Aside0.mk (K.out.box (below_size K.out.below) hg hbox hb trivial)
    clear hg hbox hb hHeld
    refine hK.out _ _ (K.out.get 2 rfl) (fun hHeld0 => ?_)
    have hHeld := Aside0.mk hHeld0
    clear hHeld0
    clear hK KC
    refine nT ?_
    refine last_ (i := 6) (N := none) #[true, true, true, true, true, true, true] rfl rfl (by kernel_rfl) (by decide) (fun KC hK => ?_)
    refine store_step (cs := #[.int .i64 r0, .int .i64 u0, .int .i64 r1, .int .i64 u1, .slice A9 m c9]) (by rfl) rfl 26 (.tmp 6) (.tmp 26) rfl rfl (by kernel_rfl) (K.out.get 0 rfl) rfl rfl (by first | (kernel_rfl) | (simp [Value.oneCell'])) ?_
    intro WS hs
    refine hK.out _ _ ?_
    replace K := Aside0.mk (K.out.stored 0 rfl hs)
    clear hK KC hs hHeld
    refine done_ (by kernel_rfl) ?_
    go_wp2
    go_meet
    case rel => exact ⟨_, _, _, rfl, ⟨K.out⟩⟩
   ·skip
    refine box_step ?hg (N := 6) ?hd (cs := #[.int .i64 0, .int .i64 0, .int .i64 0, .int .i64 0, .slice none 0 0]) (t := 26) ?hr ?_
    case hd => rfl
    case hg => rfl
    case hr => first | (go_simp; done) | (go_simp; rfl)
    intro g6 hg w7 hbox hb
    replace K := Aside0.mk (K.out.box (below_size K.out.below) hg hbox hb trivial)
    clear hg hbox hb hHeld
    refine hK.out _ _ (K.out.get 2 rfl) (fun hHeld0 => ?_)
    have hHeld := Aside0.mk hHeld0
    clear hHeld0
    clear hK KC
    refine nT ?_
    refine one_ (i := 3) (N := some 25) #[true, true, true, true, false, true, false] rfl rfl (by kernel_rfl) (by decide) (fun KC hK => ?_)
    refine R_make_cap_step (Kd.int .i64) (w0 := _) _ 3 (by rfl) (N := 25) rfl 24 (.tmp 24) (.tmp 24) rfl .i64 .i64 (m : Int) (m : Int) rfl rfl Try.underlying24 (.int .i64 0) 8 info3 rfl (by decide) (by omega) (0 : Int) (okp := fun _ => False) (ok := fun _ => True) rfl (fun _ h => h.elim) trivial (by omega) (by omega) (by have := HM.out; omega) (Below.refl _ _) (Nat.le_refl _) ?_
    intro v9 w6 ho _ hb _
    obtain ⟨A9, c9, e9⟩ := Kd.R_slice ho
    rw [Int.toNat_natCast] at ho
    rw [Int.toNat_natCast, List.length_replicate] at e9
    subst e9
    replace K := Aside0.mk (K.out.add (below_size K.out.below) ho hb)
    clear ho hb hHeld
    refine hK.out _ _ (K.out.get 2 rfl) (fun hHeld0 => ?_)
    have hHeld := Aside0.mk hHeld0
    clear hHeld0
    clear hK KC
    refine nT ?_
    refine pT (i := 4) (N := some 26) ?_
    refine last_ (i := 6) (N := none) #[true, true, true, true, true, true, true] rfl rfl (by kernel_rfl) (by decide) (fun KC hK => ?_)
    refine store_step (cs := #[.int .i64 r0, .int .i64 u0, .int .i64 r1, .int .i64 u1, .slice A9 m c9]) (by rfl) rfl 26 (.tmp 6) (.tmp 26) rfl rfl (by kernel_rfl) (K.out.get 0 rfl) rfl rfl (by first | (kernel_rfl) | (simp [Value.oneCell'])) ?_
    intro WS hs
    refine hK.out _ _ ?_
    replace K := Aside0.mk (K.out.stored 0 rfl hs)
    clear hK KC hs hHeld
    refine done_ (by kernel_rfl) ?_
    go_wp2
    go_meet
    case rel => exact ⟨_, _, _, rfl, ⟨K.out⟩⟩
  ·skip
   refine box_step ?hg (N := 6) ?hd (cs := #[.int .i64 0, .int .i64 0, .int .i64 0, .int .i64 0, .slice none 0 0]) (t := 26) ?hr ?_
   case hd => rfl
   case hg => rfl
   case hr => first | (go_simp; done) | (go_simp; rfl)
   intro g6 hg w7 hbox hb
   replace K := Aside0.mk (K.out.box (below_size K.out.below) hg hbox hb trivial)
   clear hg hbox hb hHeld
   refine hK.out _ _ (K.out.get 2 rfl) (fun hHeld0 => ?_)
   have hHeld := Aside0.mk hHeld0
   clear hHeld0
   clear hK KC
   refine nT ?_
   refine one_ (i := 2) (N := some 24) #[true, true, true, false, false, true, false] rfl rfl (by kernel_rfl) (by decide) (fun KC hK => ?_)
   refine goes_ Try.func36 (by kernel_rfl) rfl #[.agg #[.int .i64 r0, .int .i64 u0, .int .i64 r1, .int .i64 u1]] (by rfl) rfl rfl (by simp only [List.map_toArray, List.map_cons, List.map_nil]; rfl) ?_
   refine (rect_Area.calls r0 u0 r1 u1 (m : Int) _ HAR.out).mono ?_
   rintro _ w5 ⟨rfl, bb⟩
   refine ⟨_, rfl, ?_⟩
   replace K := Aside0.mk (K.out.call (below_size K.out.below) bb)
   clear bb hHeld
   refine hK.out _ _ (K.out.get 2 rfl) (fun hHeld0 => ?_)
   have hHeld := Aside0.mk hHeld0
   clear hHeld0
   clear hK KC
   refine nT ?_
   refine one_ (i := 3) (N := some 25) #[true, true, true, true, false, true, false] rfl rfl (by kernel_rfl) (by decide) (fun KC hK => ?_)
   refine R_make_cap_step (Kd.int .i64) (w0 := _) _ 3 (by rfl) (N := 25) rfl 24 (.tmp 24) (.tmp 24) rfl .i64 .i64 (m : Int) (m : Int) rfl rfl Try.underlying24 (.int .i64 0) 8 info3 rfl (by decide) (by omega) (0 : Int) (okp := fun _ => False) (ok := fun _ => True) rfl (fun _ h => h.elim) trivial (by omega) (by omega) (by have := HM.out; omega) (Below.refl _ _) (Nat.le_refl _) ?_
   intro v9 w6 ho _ hb _
   obtain ⟨A9, c9, e9⟩ := Kd.R_slice ho
   rw [Int.toNat_natCast] at ho
   rw [Int.toNat_natCast, List.length_replicate] at e9
   subst e9
   replace K := Aside0.mk (K.out.add (below_size K.out.below) ho hb)
   clear ho hb hHeld
   refine hK.out _ _ (K.out.get 2 rfl) (fun hHeld0 => ?_)
   have hHeld := Aside0.mk hHeld0
   clear hHeld0
   clear hK KC
   refine nT ?_
   refine pT (i := 4) (N := some 26) ?_
   refine last_ (i := 6) (N := none) #[true, true, true, true, true, true, true] rfl rfl (by kernel_rfl) (by decide) (fun KC hK => ?_)
   refine store_step (cs := #[.int .i64 r0, .int .i64 u0, .int .i64 r1, .int .i64 u1, .slice A9 m c9]) (by rfl) rfl 26 (.tmp 6) (.tmp 26) rfl rfl (by kernel_rfl) (K.out.get 0 rfl) rfl rfl (by first | (kernel_rfl) | (simp [Value.oneCell'])) ?_
   intro WS hs
   refine hK.out _ _ ?_
   replace K := Aside0.mk (K.out.stored 0 rfl hs)
   clear hK KC hs hHeld
   refine done_ (by kernel_rfl) ?_
   go_wp2
   go_meet
   case rel => exact ⟨_, _, _, rfl, ⟨K.out⟩⟩
 case rest =>
 obtain ⟨g6, A9, c9, rfl, K⟩ := hcut
 obtain ⟨a, cap, e, _, _, _⟩ := Kd.R_form (K.out.rowAt 0 rfl) (by rw [List.length_replicate]; exact HM.out.1)
 injection e with e1 e2 e3
 subst e1
 clear e2 e3
 go_wp2_with (first
  | ((with_reducible refine gate_dst (N := 27) rfl ?_); refine load_ev rfl 23 (.tmp 3) rfl rfl (K.out.get 2 rfl) Try.underlying23 rfl ?_)
  | (go_at_call 34; (with_reducible refine (rect_Empty.calls r0 u0 r1 u1 false _ HRE.out).mono ?_); rintro _ w34 ⟨rfl, b⟩; replace K := Aside0.mk (K.out.call (below_size K.out.below) b); clear b)
  | ((with_reducible refine gate_dst (N := 30) rfl ?_); refine load_ev rfl 26 (.tmp 6) rfl rfl (K.out.get 0 rfl) Try.underlying26 rfl ?_)
  | ((with_reducible refine gate_dst (N := 31) rfl ?_); refine load_ev rfl 26 (.tmp 2) rfl rfl (K.out.get 3 rfl) Try.underlying26 rfl ?_)
  | ((with_reducible refine gate_dst (N := 32) rfl ?_); refine load_ev rfl 23 (.tmp 3) rfl rfl (K.out.get 2 rfl) Try.underlying23 rfl ?_)
  | (go_at_call 38; have HP := plane_part.good k a c9 d r0 u0 r1 u1 s0 t0 s1 t1 r0 u0 r1 u1 A (List.replicate m 0) X1 S w _ K.out.below (by rw [List.length_replicate]; exact Kd.R_mono (K.out.rowAt 0 rfl) (fun _ _ => trivial)) HC.out HD.out (by have := HIN.out; have := HV.out; unfold PV at this; omega) (by have := HIN.out; have := HV.out; unfold PV at this; omega) (by have := HIN.out; have := HV.out; unfold PV at this; omega) (by have := HIN.out; have := HV.out; unfold PV at this; omega) (by rw [List.length_replicate]; exact ⟨HM.out.2.2, HM.out.2.1⟩) ⟨HV.out.2.2.2, by have h1 := HV.out.2.2.1; have h2 := HV.out.2.2.2; omega⟩ HF.out; rw [List.length_replicate] at HP; (with_reducible refine HP.mono ?_); clear HP; rintro _ w38 ⟨rfl, hR, hk, hb⟩; replace K := Aside0.mk (K.out.kept (i := 0) rfl rfl hk hR hb); clear hR hk hb)
  | ((with_reducible refine gate_dst (N := 34) rfl ?_); refine load_ev rfl 26 (.tmp 6) rfl rfl (K.out.get 0 rfl) Try.underlying26 rfl ?_)
  | ((with_reducible refine gate_store (t := 26) (p := 4) (v := .tmp 34) rfl ?_); refine store_ev rfl rfl 26 (.tmp 4) (.tmp 34) rfl rfl rfl (K.out.get 1 rfl) rfl rfl (by first | (kernel_rfl) | (simp [Value.oneCell'])) ?_; intro W4s hs; replace K := Aside0.mk (K.out.stored 1 rfl hs); clear hs))
 refine bodyPost_ret (results_ct rfl _ _ g4 26 _ (0, 0) _ rfl (K.out.get 1 rfl) Try.underlying26 rfl (by kernel_rfl)) rfl ?_
 exact ⟨_, rfl, Kd.R_mono (K.out.rowAt 0 rfl) (fun _ _ => trivial), K.out.below⟩
theorem Hold.cons {n : Nat} {w0 W : World} {l : List (Nat × Nat × Array Value)} {r : List (Value × List Int)} {g t : Nat} {cs : Array Value} (h : Hold n w0 W l r) (hb : W.heap[g]? = some (.cells cs t (0, 0))) (ht : (3 : Nat) ≠ t) (hn : n ≤ g) (hne : ∀ (i : Nat) (b : Nat × Nat × Array Value), l[i]? = some b → b.1 ≠ g) : Hold n w0 W ((g, t, cs) :: l) r := by
 refine ⟨⟨fun i b hi => ?_, fun i j b c hij hi hj => ?_, fun i b hi => ?_, h.below⟩, fun i j b p hi hj => ?_, h.row, h.apart⟩
 ·match i, hi with
  | 0, hi => cases hi; exact hb
  | i + 1, hi => exact h.bks.blk i b (by simpa using hi)
 ·match i, hi, j, hj with
  | 0, _, 0, _ => exact absurd rfl hij
  | 0, hi, j + 1, hj => cases hi; exact fun e => hne j c (by simpa using hj) e.symm
  | i + 1, hi, 0, hj => cases hj; exact hne i b (by simpa using hi)
  | i + 1, hi, j + 1, hj => exact h.bks.ne i j b c (by omega) (by simpa using hi) (by simpa using hj)
 ·match i, hi with
  | 0, hi => cases hi; exact hn
  | i + 1, hi => exact h.bks.ge i b (by simpa using hi)
 ·match i, hi with
  | 0, hi => cases hi; exact fun e => Kd.R_ne (h.row j p hj) hb ht e.symm
  | i + 1, hi => exact h.off i j b p (by simpa using hi) hj
attribute [local go_sem high] eqA23
set_option maxHeartbeats 8000000 in
set_option maxRecDepth 100000 in
theorem plane_Paste.good (k c0 d : Nat) (x0 y0 x1 y1 s0 t0 s1 t1 : Int) (A0 A : Option Addr) (X S X1 : List Int) (w : World)
  (hc0 : Kd.C (Kd.int .i64) w A0 X.length X) (hd0 : X.length ≤ c0) (hv0 : PV x0 y0 x1 y1 X) (hC : Kd.C (Kd.int .i64) w A S.length S) (hd : S.length ≤ d) (hv : PV s0 t0 s1 t1 S) (his : rect_Intersect.f x0 y0 x1 y1 s0 t0 s1 t1 = some (s0, t0, s1, t1)) (hxp : 0 < X.length) (hin : (x0 ≤ s0 ∧ s0 < s1 ∧ s1 ≤ x1) ∧ (y0 ≤ t0 ∧ t0 < t1 ∧ t1 ≤ y1)) (hF : partF (x1 - x0) (s1 - s0) x0 y0 s0 t0 s0 s1 t1 S k t0 X = some X1) :
  Calls Try.prog 15 #[.agg #[.int .i64 x0, .int .i64 y0, .int .i64 x1, .int .i64 y1, .slice A0 X.length c0], .agg #[.int .i64 s0, .int .i64 t0, .int .i64 s1, .int .i64 t1, .slice A S.length d]] w fun e w' => ∃ v : Value, e = .returned (.tuple #[.agg #[.int .i64 x0, .int .i64 y0, .int .i64 x1, .int .i64 y1, v], .int .i64 0]) ∧ Kd.R (Kd.int .i64) 3 w' w.heap.size (fun _ => True) v X1 ∧ Below w.heap.size w w' := by
 have HC0 := Aside0.mk hc0
 have HD0 := Aside0.mk hd0
 have HV0 := Aside0.mk hv0
 have HC := Aside0.mk hC
 have HD := Aside0.mk hd
 have HV := Aside0.mk hv
 have HIS := Aside0.mk his
 have HXP := Aside0.mk hxp
 have HIN := Aside0.mk hin
 have HF := Aside0.mk hF
 have hXl : X.length ≤ 1048576 := by have h1 := hv0.2.2.1; have h2 := hv0.2.2.2; omega
 have HXL := Aside0.mk hXl
 have HNN := Aside0.mk (show (0 ≤ x0 ∧ x1 ≤ 4096 ∧ 0 ≤ y0 ∧ y1 ≤ 4096) ∧ (0 ≤ s0 ∧ s1 ≤ 4096 ∧ 0 ≤ t0 ∧ t1 ≤ 4096) from ⟨⟨hv0.1.1, hv0.1.2.2, hv0.2.1.1, hv0.2.1.2.2⟩, hv.1.1, hv.1.2.2, hv.2.1.1, hv.2.1.2.2⟩)
 have hz1 : (s0 == 0 && (t0 == 0 && (s1 == 0 && (t1 == 0)))) = false := by
  have h1 := hin
  have h2 := hv.1
  have : (s1 == 0) = false := beq_eq_false_iff_ne.mpr (by omega)
  rw [this]
  simp
 clear hXl
 clear hc0 hd0 hv0 hC hd hv his hxp hin hF
 have K00 := Aside0.mk (Hold.nil w)
 go_enter Try.func15, Try.ntmps15
 go_upto_region 3 with (first
  | ((with_reducible refine gate_dst (N := 2) rfl ?_); refine bT (N := 2) (#[.int .i64 x0, .int .i64 y0, .int .i64 x1, .int .i64 y1, .slice A0 X.length c0]) 26 ?_; intro g2 hg W2 hbox hb; have K1 := Aside0.mk (K00.out.box (Nat.le_refl _) hg hbox hb trivial); clear hg hbox hb K00)
  | ((with_reducible refine gate_dst (N := 3) rfl ?_); refine bT (N := 3) (#[.int .i64 s0, .int .i64 t0, .int .i64 s1, .int .i64 t1, .slice A S.length d]) 26 ?_; intro g3 hg W3 hbox hb; have K2 := Aside0.mk (K1.out.box (below_size K1.out.below) hg hbox hb trivial); clear hg hbox hb K1)
  | ((with_reducible refine gate_dst (N := 4) rfl ?_); refine bT (N := 4) (#[.int .i64 0, .int .i64 0, .int .i64 0, .int .i64 0, .slice none 0 0]) 26 ?_; intro g4 hg W4 hbox hb; have K := Aside0.mk (K2.out.box (below_size K2.out.below) hg hbox hb trivial); clear hg hbox hb K2)
  | ((with_reducible refine gate_dst (N := 8) rfl ?_); refine load_ev rfl 26 (.tmp 2) rfl rfl (K.out.get 2 rfl) Try.underlying26 rfl ?_)
  | (go_at_call 25; (with_reducible refine (plane_Valid.calls x0 y0 x1 y1 A0 c0 X true _ (Kd.C_below HC0.out K.out.below) HD0.out HV0.out.valid).mono ?_); rintro _ w25 ⟨rfl, b⟩; replace K := Aside0.mk (K.out.call (below_size K.out.below) b); clear b)
  | ((with_reducible refine gate_dst (N := 12) rfl ?_); (try (refine gate_guard (by rfl) ?_; dsimp only)); refine load_ev rfl 26 (.tmp 3) rfl rfl (K.out.get 1 rfl) Try.underlying26 rfl ?_)
  | ((try (refine gate_guard (by rfl) ?_; dsimp only)); go_at_call 25; (with_reducible refine (plane_Valid.calls s0 t0 s1 t1 A d S true _ (Kd.C_below HC.out K.out.below) HD.out HV.out.valid).mono ?_); rintro _ w26 ⟨rfl, b⟩; replace K := Aside0.mk (K.out.call (below_size K.out.below) b); clear b))
 go_cut [6] (fun v6 wc => ∃ (g6 : Nat) (A9 : Option Addr) (d9 : Nat), v6 = .pointer (some ⟨g6, 0, none⟩) ∧ Aside0 (Hold w.heap.size w wc [(g6, 26, #[.int .i64 x0, .int .i64 y0, .int .i64 x1, .int .i64 y1, .slice A9 X.length d9]), (g4, 26, #[.int .i64 0, .int .i64 0, .int .i64 0, .int .i64 0, .slice none 0 0]), (g3, 26, #[.int .i64 s0, .int .i64 t0, .int .i64 s1, .int .i64 t1, .slice A S.length d]), (g2, 26, #[.int .i64 x0, .int .i64 y0, .int .i64 x1, .int .i64 y1, .slice A0 X.length c0])] [(.slice A9 X.length d9, X)]))
 case first =>
  replace K := Aside0.mk (K.out.drew)
  clear hz1
  refine start_ (n := 9) (S := fun w' => w'.heap[g2]? = some (.cells #[.int .i64 x0, .int .i64 y0, .int .i64 x1, .int .i64 y1, .slice A0 X.length c0] 26 (0, 0))) (ds := [8]) #[false, false, false, false, false, false, false, false, false] (by kernel_rfl) rfl rfl (K.out.get 2 rfl) (fun hHeld0 => ?_)
  generalize hw2 : w26.drew = w2 at *
  clear hw2
  have hHeld := Aside0.mk hHeld0
  clear hHeld0
  refine pT (i := 0) (N := some 17) ?_
  refine take_ (i := 1) (N := some 18) (v := .agg #[.int .i64 x0, .int .i64 y0, .int .i64 x1, .int .i64 y1]) (a' := ?_) #[true, true, false, false, false, false, false, false, false] rfl rfl (by kernel_rfl) (fun _ _ _ h => h) (load_mid_yields (i := 0) (cs := #[.int .i64 x0, .int .i64 y0, .int .i64 x1, .int .i64 y1]) (by rfl) 23 (.tmp 17) rfl rfl (fun _ h => h) (fun j v hj => by rcases j with _ | _ | _ | _ | j <;> first | exact hj | (simp at hj)) Try.underlying23 rfl rfl) hHeld.out ?_ ?_
  rotate_left
  ·simp only [Act.put, List.setIfInBounds_toArray, List.set_cons_zero, List.set_cons_succ, i64_w, i32_w]
   rfl
  refine pT (i := 3) (N := some 20) ?_
  refine take_ (i := 4) (N := some 21) (v := ?_) (a' := ?_) #[true, true, false, true, true, false, false, false, false] rfl rfl (by kernel_rfl) (fun _ _ _ h => h) (Or.inl ⟨by rfl, ?_⟩) hHeld.out ?_ ?_
  rotate_left
  ·rintro w' s0
   have s4 : w'.cell? ⟨g2, 4, none⟩ = some (.slice A0 X.length c0) := (blk_cell s0 4).trans rfl
   go_simp
   with_reducible rfl
  rotate_left
  ·simp only [Act.put, List.setIfInBounds_toArray, List.set_cons_zero, List.set_cons_succ, i64_w, i32_w]
   rfl
  refine two_ (i := 2) (j := 7) (Ni := some 19) (Nj := some 6) #[true, true, true, true, true, false, false, false, false] #[true, true, false, true, true, false, false, true, false] rfl rfl rfl rfl (by kernel_rfl) (by decide) (by decide) (fun KC hK => ?_) (fun KC hK => ?_)
  ·skip
   have HE := Aside0.mk (built_none w2)
   have HB3 := Aside0.mk (below_alloc (Below.refl w2.heap.size w2) (.cells #[] 3))
   have Kb := Aside0.mk K.out
   refine event_step (v := .slice (some ⟨w2.heap.size, 0, none⟩) 0 0) (w1 := w2.alloc (.cells #[] 3)) (by rfl) (by first | (go_simp; done) | (go_simp; rfl)) ?_
   generalize w2.alloc (.cells #[] 3) = w5 at HE HB3 ⊢
   replace K := Aside0.mk (K.out.call (below_size K.out.below) HB3.out)
   clear hHeld
   refine hK.out _ _ (K.out.get 2 rfl) (fun hHeld0 => ?_)
   have hHeld := Aside0.mk hHeld0
   clear hHeld0
   clear hK KC
   refine nT ?_
   refine two_ (i := 5) (j := 7) (Ni := some 22) (Nj := some 6) #[true, true, true, true, true, true, false, false, false] #[true, true, true, true, true, false, false, true, false] rfl rfl rfl rfl (by kernel_rfl) (by decide) (by decide) (fun KC hK => ?_) (fun KC hK => ?_)
   ·skip
    refine Kd.R_append_rows_step (Kd.int .i64) (w0 := _) _ (by rfl) (.tmp 19) (.tmp 21) 24 3 (.int .i64 0) 8 rfl Try.underlying24 info3 rfl (by decide) (by omega) _ [] X A0 X.length c0 (fun _ => True) (fun _ => False) rfl rfl HE.out (Kd.C_below HC0.out K.out.below) (fun _ _ h => h) (fun _ h => h.elim) (fun _ _ => trivial) HB3.out (below_size HB3.out) (by have := HXL.out; simp; omega) ?_
    intro v9 w8 ho hb hg _
    rw [List.nil_append] at ho
    obtain ⟨A9, d9, rfl⟩ := Kd.R_slice ho
    have K' := Aside0.mk (Kb.out.add (below_size Kb.out.below) ho hb)
    clear K
    have K := K'
    clear K' ho hb hg hHeld HE HB3 Kb
    refine hK.out _ _ (K.out.get 2 rfl) (fun hHeld0 => ?_)
    have hHeld := Aside0.mk hHeld0
    clear hHeld0
    clear hK KC
    refine nT ?_
    refine pT (i := 6) (N := some 23) ?_
    refine one_ (i := 7) (N := some 6) #[true, true, true, true, true, true, true, true, false] rfl rfl (by kernel_rfl) (by decide) (fun KC hK => ?_)
    refine box_step ?hg (N := 6) ?hd (cs := #[.int .i64 0, .int .i64 0, .int .i64 0, .int .i64 0, .slice none 0 0]) (t := 26) ?hr ?_
    case hd => rfl
    case hg => rfl
    case hr => first | (go_simp; done) | (go_simp; rfl)
    intro g6 hg w7 hbox hb
    replace K := Aside0.mk (K.out.box (below_size K.out.below) hg hbox hb trivial)
    clear hg hbox hb hHeld
    refine hK.out _ _ (K.out.get 3 rfl) (fun hHeld0 => ?_)
    have hHeld := Aside0.mk hHeld0
    clear hHeld0
    clear hK KC
    refine nT ?_
    refine last_ (i := 8) (N := none) #[true, true, true, true, true, true, true, true, true] rfl rfl (by kernel_rfl) (by decide) (fun KC hK => ?_)
    refine store_step (cs := #[.int .i64 x0, .int .i64 y0, .int .i64 x1, .int .i64 y1, .slice A9 X.length d9]) (by rfl) rfl 26 (.tmp 6) (.tmp 23) rfl rfl (by kernel_rfl) (K.out.get 0 rfl) rfl rfl (by first | (kernel_rfl) | (simp [Value.oneCell'])) ?_
    intro WS hs
    refine hK.out _ _ ?_
    replace K := Aside0.mk (K.out.stored 0 rfl hs)
    clear hK KC hs hHeld
    refine done_ (by kernel_rfl) ?_
    go_wp2
    go_meet
    case rel => exact ⟨_, _, _, rfl, ⟨K.out⟩⟩
   ·skip
    refine box_step ?hg (N := 6) ?hd (cs := #[.int .i64 0, .int .i64 0, .int .i64 0, .int .i64 0, .slice none 0 0]) (t := 26) ?hr ?_
    case hd => rfl
    case hg => rfl
    case hr => first | (go_simp; done) | (go_simp; rfl)
    intro g6 hg w7 hbox hb
    replace K := Aside0.mk (K.out.box (below_size K.out.below) hg hbox hb trivial)
    replace HE := Aside0.mk (Kd.R_below HE.out hb)
    replace HB3 := Aside0.mk (HB3.out.trans (hb.mono (below_size HB3.out)))
    clear hg hbox hb hHeld
    refine hK.out _ _ (K.out.get 3 rfl) (fun hHeld0 => ?_)
    have hHeld := Aside0.mk hHeld0
    clear hHeld0
    clear hK KC
    refine nT ?_
    refine one_ (i := 5) (N := some 22) #[true, true, true, true, true, true, false, true, false] rfl rfl (by kernel_rfl) (by decide) (fun KC hK => ?_)
    refine Kd.R_append_rows_step (Kd.int .i64) (w0 := _) _ (by rfl) (.tmp 19) (.tmp 21) 24 3 (.int .i64 0) 8 rfl Try.underlying24 info3 rfl (by decide) (by omega) _ [] X A0 X.length c0 (fun _ => True) (fun _ => False) rfl rfl HE.out (Kd.C_below HC0.out K.out.below) (fun _ _ h => h) (fun _ h => h.elim) (fun _ _ => trivial) HB3.out (below_size HB3.out) (by have := HXL.out; simp; omega) ?_
    intro v9 w8 ho hb hg _
    rw [List.nil_append] at ho
    obtain ⟨A9, d9, rfl⟩ := Kd.R_slice ho
    have hg6 := blk_grown (K.out.get 0 rfl) hg (Kd.R_ne HE.out (K.out.get 0 rfl) (by decide))
    have K' := Aside0.mk (Hold.cons (Kb.out.add (below_size Kb.out.below) ho hb) hg6 (by decide) (K.out.bks.ge 0 _ rfl) (fun q b hq => K.out.bks.ne (q + 1) 0 _ _ (by omega) hq rfl))
    clear K
    have K := K'
    clear K' ho hb hg hHeld HE HB3 Kb
    refine hK.out _ _ (K.out.get 3 rfl) (fun hHeld0 => ?_)
    have hHeld := Aside0.mk hHeld0
    clear hHeld0
    clear hK KC
    refine nT ?_
    refine pT (i := 6) (N := some 23) ?_
    refine last_ (i := 8) (N := none) #[true, true, true, true, true, true, true, true, true] rfl rfl (by kernel_rfl) (by decide) (fun KC hK => ?_)
    refine store_step (cs := #[.int .i64 x0, .int .i64 y0, .int .i64 x1, .int .i64 y1, .slice A9 X.length d9]) (by rfl) rfl 26 (.tmp 6) (.tmp 23) rfl rfl (by kernel_rfl) (K.out.get 0 rfl) rfl rfl (by first | (kernel_rfl) | (simp [Value.oneCell'])) ?_
    intro WS hs
    refine hK.out _ _ ?_
    replace K := Aside0.mk (K.out.stored 0 rfl hs)
    clear hK KC hs hHeld
    refine done_ (by kernel_rfl) ?_
    go_wp2
    go_meet
    case rel => exact ⟨_, _, _, rfl, ⟨K.out⟩⟩
  ·skip
   refine box_step ?hg (N := 6) ?hd (cs := #[.int .i64 0, .int .i64 0, .int .i64 0, .int .i64 0, .slice none 0 0]) (t := 26) ?hr ?_
   case hd => rfl
   case hg => rfl
   case hr => first | (go_simp; done) | (go_simp; rfl)
   intro g6 hg w7 hbox hb
   replace K := Aside0.mk (K.out.box (below_size K.out.below) hg hbox hb trivial)
   clear hg hbox hb hHeld
   refine hK.out _ _ (K.out.get 3 rfl) (fun hHeld0 => ?_)
   have hHeld := Aside0.mk hHeld0
   clear hHeld0
   clear hK KC
   refine nT ?_
   refine one_ (i := 2) (N := some 19) #[true, true, true, true, true, false, false, true, false] rfl rfl (by kernel_rfl) (by decide) (fun KC hK => ?_)
   have HE := Aside0.mk (built_none w7)
   have HB3 := Aside0.mk (below_alloc (Below.refl w7.heap.size w7) (.cells #[] 3))
   have Kb := Aside0.mk K.out
   refine event_step (v := .slice (some ⟨w7.heap.size, 0, none⟩) 0 0) (w1 := w7.alloc (.cells #[] 3)) (by rfl) (by first | (go_simp; done) | (go_simp; rfl)) ?_
   generalize w7.alloc (.cells #[] 3) = w5 at HE HB3 ⊢
   replace K := Aside0.mk (K.out.call (below_size K.out.below) HB3.out)
   clear hHeld
   refine hK.out _ _ (K.out.get 3 rfl) (fun hHeld0 => ?_)
   have hHeld := Aside0.mk hHeld0
   clear hHeld0
   clear hK KC
   refine nT ?_
   refine one_ (i := 5) (N := some 22) #[true, true, true, true, true, true, false, true, false] rfl rfl (by kernel_rfl) (by decide) (fun KC hK => ?_)
   refine Kd.R_append_rows_step (Kd.int .i64) (w0 := _) _ (by rfl) (.tmp 19) (.tmp 21) 24 3 (.int .i64 0) 8 rfl Try.underlying24 info3 rfl (by decide) (by omega) _ [] X A0 X.length c0 (fun _ => True) (fun _ => False) rfl rfl HE.out (Kd.C_below HC0.out K.out.below) (fun _ _ h => h) (fun _ h => h.elim) (fun _ _ => trivial) HB3.out (below_size HB3.out) (by have := HXL.out; simp; omega) ?_
   intro v9 w8 ho hb hg _
   rw [List.nil_append] at ho
   obtain ⟨A9, d9, rfl⟩ := Kd.R_slice ho
   have K' := Aside0.mk (Kb.out.add (below_size Kb.out.below) ho hb)
   clear K
   have K := K'
   clear K' ho hb hg hHeld HE HB3 Kb
   refine hK.out _ _ (K.out.get 3 rfl) (fun hHeld0 => ?_)
   have hHeld := Aside0.mk hHeld0
   clear hHeld0
   clear hK KC
   refine nT ?_
   refine pT (i := 6) (N := some 23) ?_
   refine last_ (i := 8) (N := none) #[true, true, true, true, true, true, true, true, true] rfl rfl (by kernel_rfl) (by decide) (fun KC hK => ?_)
   refine store_step (cs := #[.int .i64 x0, .int .i64 y0, .int .i64 x1, .int .i64 y1, .slice A9 X.length d9]) (by rfl) rfl 26 (.tmp 6) (.tmp 23) rfl rfl (by kernel_rfl) (K.out.get 0 rfl) rfl rfl (by first | (kernel_rfl) | (simp [Value.oneCell'])) ?_
   intro WS hs
   refine hK.out _ _ ?_
   replace K := Aside0.mk (K.out.stored 0 rfl hs)
   clear hK KC hs hHeld
   refine done_ (by kernel_rfl) ?_
   go_wp2
   go_meet
   case rel => exact ⟨_, _, _, rfl, ⟨K.out⟩⟩
 case rest =>
 obtain ⟨g6, A9, d9, rfl, K⟩ := hcut
 obtain ⟨a, cap, e, _, _, _⟩ := Kd.R_form (K.out.rowAt 0 rfl) HXP.out
 injection e with e1 e2 e3
 subst e1
 clear e2 e3
 go_wp2_with (first
  | ((with_reducible refine gate_dst (N := 25) rfl ?_); refine load_mid_ev (i := 0) (cs := #[.int .i64 x0, .int .i64 y0, .int .i64 x1, .int .i64 y1]) rfl 23 (.tmp 24) rfl rfl (K.out.get 3 rfl) (fun j v hj => by rcases j with _ | _ | _ | _ | j <;> first | exact hj | (simp at hj)) Try.underlying23 rfl rfl ?_)
  | ((with_reducible refine gate_dst (N := 27) rfl ?_); refine load_mid_ev (i := 0) (cs := #[.int .i64 s0, .int .i64 t0, .int .i64 s1, .int .i64 t1]) rfl 23 (.tmp 26) rfl rfl (K.out.get 2 rfl) (fun j v hj => by rcases j with _ | _ | _ | _ | j <;> first | exact hj | (simp at hj)) Try.underlying23 rfl rfl ?_)
  | (go_at_call 32; (with_reducible refine (rect_Intersect.calls x0 y0 x1 y1 s0 t0 s1 t1 s0 t0 s1 t1 _ HIS.out).mono ?_); rintro _ w32 ⟨rfl, b⟩; replace K := Aside0.mk (K.out.call (below_size K.out.below) b); clear b)
  | ((with_reducible refine gate_dst (N := 7) rfl ?_); refine bT (N := 7) (#[.int .i64 0, .int .i64 0, .int .i64 0, .int .i64 0]) 23 ?_; intro g7 hg W7 hbox hb; replace K := Aside0.mk (K.out.box (below_size K.out.below) hg hbox hb trivial); clear hg hbox hb)
  | ((with_reducible refine gate_store (t := 23) (p := 7) (v := .tmp 28) rfl ?_); refine store_ev rfl rfl 23 (.tmp 7) (.tmp 28) rfl rfl rfl (K.out.get 0 rfl) rfl rfl (by first | (kernel_rfl) | (simp [Value.oneCell'])) ?_; intro W7s hs; replace K := Aside0.mk (K.out.stored 0 rfl hs); clear hs)
  | ((with_reducible refine gate_dst (N := 29) rfl ?_); refine load_ev rfl 23 (.tmp 7) rfl rfl (K.out.get 0 rfl) Try.underlying23 rfl ?_)
  | ((with_reducible refine gate_dst (N := 32) rfl ?_); refine load_ev rfl 26 (.tmp 6) rfl rfl (K.out.get 1 rfl) Try.underlying26 rfl ?_)
  | ((with_reducible refine gate_dst (N := 33) rfl ?_); refine load_ev rfl 26 (.tmp 3) rfl rfl (K.out.get 3 rfl) Try.underlying26 rfl ?_)
  | ((with_reducible refine gate_dst (N := 34) rfl ?_); refine load_ev rfl 23 (.tmp 7) rfl rfl (K.out.get 0 rfl) Try.underlying23 rfl ?_)
  | (go_at_call 38; have HP := plane_part.good k a d9 d x0 y0 x1 y1 s0 t0 s1 t1 s0 t0 s1 t1 A X X1 S w _ K.out.below (Kd.R_mono (K.out.rowAt 0 rfl) (fun _ _ => trivial)) HC.out HD.out (by have := HIN.out; have := HNN.out; omega) (by have := HIN.out; have := HNN.out; omega) (by have := HIN.out; have := HNN.out; omega) (by have := HIN.out; have := HNN.out; omega) ⟨HV0.out.2.2.2, HXL.out⟩ ⟨HV.out.2.2.2, by have h1 := HV.out.2.2.1; have h2 := HV.out.2.2.2; omega⟩ HF.out; (with_reducible refine HP.mono ?_); clear HP; rintro _ w38 ⟨rfl, hR, hk, hb⟩; replace K := Aside0.mk (K.out.kept (i := 0) rfl rfl hk hR hb); clear hR hk hb)
  | ((with_reducible refine gate_dst (N := 36) rfl ?_); refine load_ev rfl 26 (.tmp 6) rfl rfl (K.out.get 1 rfl) Try.underlying26 rfl ?_)
  | ((with_reducible refine gate_store (t := 26) (p := 4) (v := .tmp 36) rfl ?_); refine store_ev rfl rfl 26 (.tmp 4) (.tmp 36) rfl rfl rfl (K.out.get 2 rfl) rfl rfl (by first | (kernel_rfl) | (simp [Value.oneCell'])) ?_; intro W4s hs; replace K := Aside0.mk (K.out.stored 2 rfl hs); clear hs))
 refine bodyPost_ret (results_ct rfl _ _ g4 26 _ (0, 0) _ rfl (K.out.get 2 rfl) Try.underlying26 rfl (by kernel_rfl)) rfl ?_
 exact ⟨_, rfl, Kd.R_mono (K.out.rowAt 0 rfl) (fun _ _ => trivial), K.out.below⟩
end Go.Proofs.Ytcnpekpgghppnaa.Q
