/- Texts of this session (words and printed walks, merged by wip/tools/merge.py) for the statement of the claim. -/
import Derived.Test.YtcnpekpgghppnaaMTr5
import Derived.Test.YtcnpekpgghppnaaMTr3
import Derived.Test.YtcnpekpgghppnaaMTr6
/- pyramid.Analyze. Printed by wip/tools of this session. -/
namespace Go.Proofs.Ytcnpekpgghppnaa.Q
open Go.RowKit Go.Proofs.YtcnpekpgghppnaaW.PrintWords Go.Proofs.YtcnpekpgghppnaaW.PrintLast Go.Proofs.YtcnpekpgghppnaaW.PrintMore
set_option linter.unusedVariables false
set_option linter.unusedSimpArgs false

theorem Hold.sub {n : Nat} {w0 W : World} {l : List (Nat × Nat × Array Value)} {r r' : List (Value × List Int)} (h : Hold n w0 W l r) (f : Nat → Nat) (hf : ∀ i j, f i = f j → i = j) (hr : ∀ (i : Nat) (p : Value × List Int), r'[i]? = some p → r[f i]? = some p) : Hold n w0 W l r' :=
  ⟨h.bks, fun i j b p hi hj => h.off i (f j) b p hi (hr j p hj), fun i p hi => h.row (f i) p (hr i p hi), fun i j p q hij hi hj => h.apart (f i) (f j) p q (fun e => hij (hf i j e)) (hr i p hi) (hr j q hj)⟩
theorem Hold.erase {n : Nat} {w0 W : World} {l : List (Nat × Nat × Array Value)} {r : List (Value × List Int)} (h : Hold n w0 W l r) (i : Nat) : Hold n w0 W l (r.eraseIdx i) :=
  h.sub (fun j => if j < i then j else j + 1) (fun a b hab => by split at hab <;> split at hab <;> omega) (fun j p hj => by
    rw [List.getElem?_eraseIdx] at hj
    split <;> rename_i hlt
    · rwa [if_pos hlt] at hj
    · rwa [if_neg hlt] at hj)
theorem final_planes (kq : Nat) (done : List (Value × Pl)) (p1 p2 p3 : Value × Pl) : (((List.replicate (3 * (kq + 1) + 1) zeroPl ++ done).set (3 * kq + 1) p1).set (3 * kq + 2) p2).set (3 * kq + 3) p3 = List.replicate (3 * kq + 1) zeroPl ++ p1 :: p2 :: p3 :: done := by
  have e : List.replicate (3 * (kq + 1) + 1) zeroPl ++ done = List.replicate (3 * kq + 1) zeroPl ++ (zeroPl :: zeroPl :: zeroPl :: done) := by
    rw [show 3 * (kq + 1) + 1 = (3 * kq + 1) + 3 by omega, ← List.replicate_append_replicate, List.append_assoc]
    rfl
  rw [e]
  rw [List.set_append_right _ _ (by simp), List.set_append_right _ _ (by simp), List.set_append_right _ _ (by simp)]
  simp only [List.length_replicate]
  rw [show 3 * kq + 1 - (3 * kq + 1) = 0 by omega, show 3 * kq + 2 - (3 * kq + 1) = 1 by omega, show 3 * kq + 3 - (3 * kq + 1) = 2 by omega]
  rfl
set_option maxHeartbeats 8000000 in
set_option maxRecDepth 100000 in
theorem pyramid_Analyze.good (km ke n : Nat) (kk mg x0 y0 x1 y1 : Int) (A : Option Addr) (c : Nat) (D : List Int) (bs : List Pl) (w : World)
    (hr : Kd.C (Kd.int .i64) w A D.length D) (hc : D.length ≤ c) (hv : PV x0 y0 x1 y1 D) (hm : lift_Margin.f km kk = some mg) (hmg : mg ≠ 0) (hex : pyramid_exceeds.f ke D 1048576 = some false) (hn : n ≤ 5) (hA : Ana kk n ⟨x0, y0, x1, y1, D⟩ bs) :
    Calls Try.prog 9 #[.agg #[.int .i64 x0, .int .i64 y0, .int .i64 x1, .int .i64 y1, .slice A D.length c], .int .i64 (n : Int), .int .i64 kk] w fun e w' => ∃ (g : Nat) (ps : List (Value × Pl)), ps.map (·.2) = bs ∧ e = .returned (.tuple #[.slice (some ⟨g, 0, none⟩) ps.length ps.length, .int .i64 0]) ∧ Hold w.heap.size w w' [(g, 26, cellsOf ps)] (rowsOf ps) := by
  have HR := Aside0.mk hr
  have HC := Aside0.mk hc
  have HV := Aside0.mk hv
  have HM := Aside0.mk hm
  have HMG := Aside0.mk hmg
  have HEX := Aside0.mk hex
  have HN := Aside0.mk hn
  have HA := Aside0.mk hA
  have HVV := Aside0.mk hv.valid
  have HVL := Aside0.mk (show pyramid_validLevels.f (n : Int) = some true by unfold pyramid_validLevels.f; rw [if_pos (by omega), decide_eq_true (by omega)])
  have HDL0 := Aside0.mk (show (D.length : Int) ≤ 1048576 by rw [hv.2.2.2]; exact hv.2.2.1)
  obtain ⟨m, hm1⟩ : ∃ m : Nat, m = 3 * n + 1 := ⟨_, rfl⟩
  have HCT := Aside0.mk (show pyramid_Count.f (n : Int) = some (m : Int) by unfold pyramid_Count.f; rw [HVL.out]; show some (wrap64 (wrap64 (3 * (n : Int)) + 1)) = some (m : Int); rw [show wrap64 (wrap64 (3 * (n : Int)) + 1) = (m : Int) by unfold wrap64; omega])
  have HLB := Aside0.mk hA.len
  have HMM := Aside0.mk (And.intro hm1 (show m ≤ 16 by omega))
  have b0 : decide (mg = 0) = false := decide_eq_false hmg
  have b1 : (mg == 0) = false := beq_eq_false_iff_ne.mpr hmg
  clear hm1
  clear hr hc hv hm hmg hex hn hA
  have K00 := Aside0.mk (Hold.nil w)
  go_enter Try.func9, Try.ntmps9
  go_upto_region 8 with (first
    | ((with_reducible refine gate_dst (N := 3) rfl ?_); refine box_event ?hg (N := 3) ?hd (cs := #[.int .i64 x0, .int .i64 y0, .int .i64 x1, .int .i64 y1, .slice A D.length c]) (t := 26) ?hr ?_; (case hd => rfl); (case hg => rfl); (case hr => first | (go_simp; done) | (go_simp; rfl)); intro g3 hg W3 hbox hb; have K := Aside0.mk (K00.out.box (Nat.le_refl _) hg hbox hb trivial); clear hg hbox hb K00)
    | ((with_reducible refine gate_dst (N := 14) rfl ?_); refine load_ev rfl 26 (.tmp 3) rfl rfl (K.out.get 0 rfl) Try.underlying26 rfl ?_)
    | (go_at_call 25; (with_reducible refine (plane_Valid.calls x0 y0 x1 y1 A c D true _ (Kd.C_below HR.out K.out.below) HC.out HVV.out).mono ?_); rintro _ w25 ⟨rfl, b⟩; have K' := Aside0.mk (K.out.call (below_size K.out.below) b); clear K; have K := K'; clear K'; clear b)
    | (go_at_call 26; (with_reducible refine (lift_Margin.calls km kk mg _ HM.out).mono ?_); rintro _ w26 ⟨rfl, b⟩; have K' := Aside0.mk (K.out.call (below_size K.out.below) b.below); clear K; have K := K'; clear K'; clear b)
    | (go_at_call 27; (with_reducible refine (pyramid_validLevels.calls (n : Int) true _ HVL.out).mono ?_); rintro _ w27 ⟨rfl, b⟩; have K' := Aside0.mk (K.out.call (below_size K.out.below) b.below); clear K; have K := K'; clear K'; clear b; have p4 : w27.cell? ⟨g3, 4, none⟩ = some (.slice A D.length c) := K.out.cell 0 rfl 4 rfl)
    | ((try (refine gate_guard (by rfl) ?_; dsimp only)); go_at_call 28; (with_reducible refine (pyramid_exceeds.calls ke A c D 1048576 false _ (Kd.C_below HR.out K.out.below) HC.out HEX.out).mono ?_); rintro _ w28 ⟨rfl, b⟩; have K' := Aside0.mk (K.out.call (below_size K.out.below) b.below); clear K; have K := K'; clear K'; clear b p4)
    | (go_at_call 29; (with_reducible refine (pyramid_Count.calls (n : Int) (m : Int) _ HCT.out).mono ?_); rintro _ w29 ⟨rfl, b⟩; have K' := Aside0.mk (K.out.call (below_size K.out.below) b.below); clear K; have K := K'; clear K'; clear b)
    | ((with_reducible refine gate_dst (N := 30) rfl ?_); refine make_planes_ev rfl (N := 30) rfl (.tmp 29) (.tmp 29) rfl m rfl rfl (by have := HMM.out; omega) ?_; intro gS hg w30 hbox hb; have K' := Aside0.mk (K.out.box (below_size K.out.below) hg hbox hb trivial); clear K; have K := K'; clear K'; clear hg hbox hb))
  clear b0 b1 HVV HVL HCT HM HMG HEX HV
  have HDL := Aside0.mk (show D.length ≤ 1048576 by have := HDL0.out; omega)
  go_cut [9] (fun v9 wc => ∃ (g9 : Nat) (A9 : Option Addr) (d9 : Nat), v9 = .pointer (some ⟨g9, 0, none⟩) ∧ Aside0 (Hold w.heap.size w wc [(g9, 26, #[.int .i64 x0, .int .i64 y0, .int .i64 x1, .int .i64 y1, .slice A9 D.length d9]), (gS, 26, cellsOf (List.replicate m zeroPl)), (g3, 26, #[.int .i64 x0, .int .i64 y0, .int .i64 x1, .int .i64 y1, .slice A D.length c])] [(.slice A9 D.length d9, D)]))
  case first =>
    have K' := Aside0.mk (K.out.drew)
    clear K
    have K := K'
    clear K'
    refine start_ (n := 8) (S := fun w' => w'.heap[g3]? = some (.cells #[.int .i64 x0, .int .i64 y0, .int .i64 x1, .int .i64 y1, .slice A D.length c] 26 (0, 0))) (ds := [7]) #[false, false, false, false, false, false, false, false] (by kernel_rfl) rfl rfl (K.out.get 1 rfl) (fun hHeld0 => ?_)
    generalize hw2 : w30.drew = w2 at *
    clear hw2
    have hHeld := Aside0.mk hHeld0
    clear hHeld0
    refine pure_ (i := 0) (N := some 31) (v := ?_) (a' := ?_) #[true, false, false, false, false, false, false, false] rfl rfl (by kernel_rfl) (fun _ _ _ h => h) (Or.inl ⟨by rfl, ?_⟩) ?_ ?_
    rotate_left
    · intro w'
      go_simp
      with_reducible rfl
    rotate_left
    · simp only [Act.put, List.setIfInBounds_toArray, List.set_cons_zero, List.set_cons_succ, i64_w, i32_w]
      rfl
    refine take_ (i := 1) (N := some 32) (v := .agg #[.int .i64 x0, .int .i64 y0, .int .i64 x1, .int .i64 y1]) (a' := ?_) #[true, true, false, false, false, false, false, false] rfl rfl (by kernel_rfl) (fun _ _ _ h => h) (load_mid_yields (i := 0) (cs := #[.int .i64 x0, .int .i64 y0, .int .i64 x1, .int .i64 y1]) (by rfl) 23 (.tmp 31) rfl rfl (fun _ h => h) (fun j v hj => by rcases j with _ | _ | _ | _ | j <;> first | exact hj | (simp at hj)) Try.underlying23 rfl rfl) hHeld.out ?_ ?_
    rotate_left
    · simp only [Act.put, List.setIfInBounds_toArray, List.set_cons_zero, List.set_cons_succ, i64_w, i32_w]
      rfl
    refine pure_ (i := 2) (N := some 33) (v := ?_) (a' := ?_) #[true, true, true, false, false, false, false, false] rfl rfl (by kernel_rfl) (fun _ _ _ h => h) (Or.inl ⟨by rfl, ?_⟩) ?_ ?_
    rotate_left
    · intro w'
      go_simp
      with_reducible rfl
    rotate_left
    · simp only [Act.put, List.setIfInBounds_toArray, List.set_cons_zero, List.set_cons_succ, i64_w, i32_w]
      rfl
    refine take_ (i := 3) (N := some 34) (v := ?_) (a' := ?_) #[true, true, true, true, false, false, false, false] rfl rfl (by kernel_rfl) (fun _ _ _ h => h) (Or.inl ⟨by rfl, ?_⟩) hHeld.out ?_ ?_
    rotate_left
    · rintro w' s0
      have s4 : w'.cell? ⟨g3, 4, none⟩ = some (.slice A D.length c) := (blk_cell s0 4).trans rfl
      go_simp
      with_reducible rfl
    rotate_left
    · simp only [Act.put, List.setIfInBounds_toArray, List.set_cons_zero, List.set_cons_succ, i64_w, i32_w]
      rfl
    refine two_ (i := 4) (j := 6) (Ni := some 35) (Nj := some 9) #[true, true, true, true, true, false, false, false] #[true, true, true, true, false, false, true, false] rfl rfl rfl rfl (by kernel_rfl) (by decide) (by decide) (fun KC hK => ?_) (fun KC hK => ?_)
    · skip
      refine Kd.R_append_rows_step (Kd.int .i64) (w0 := w2) w2.heap.size (by rfl) (.const (.slice none 0 0)) (.tmp 34) 24 3 (.int .i64 0) 8 rfl Try.underlying24 info3 rfl (by decide) (by omega) (.slice none 0 0) [] D A D.length c (fun _ => True) (fun _ => False) rfl rfl (Kd.R_nil _ _ _ _ _) (Kd.C_below HR.out K.out.below) (fun _ _ h => h) (fun _ h => h.elim) (fun _ _ => trivial) (Below.refl _ _) (Nat.le_refl _) (by have := HDL.out; simp; omega) ?_
      intro v0 w5 ho hb hg hat
      rw [List.nil_append] at ho
      obtain ⟨A9, d9, rfl⟩ := Kd.R_slice ho
      have K' := Aside0.mk (K.out.add (below_size K.out.below) ho hb)
      clear K
      have K := K'
      clear K'
      clear ho hb hg hat hHeld
      refine hK.out _ _ (K.out.get 1 rfl) (fun hHeld0 => ?_)
      have hHeld := Aside0.mk hHeld0
      clear hHeld0
      clear hK KC
      refine norm_ (a' := ?_) ?_ ?_
      rotate_left
      · show Act.put _ (some 35) _ = _
        simp only [Act.put, List.setIfInBounds_toArray, List.set_cons_zero, List.set_cons_succ, i64_w, i32_w]
        rfl
      refine pure_ (i := 5) (N := some 36) (v := ?_) (a' := ?_) #[true, true, true, true, true, true, false, false] rfl rfl (by kernel_rfl) (fun _ _ _ h => h) (Or.inl ⟨by rfl, ?_⟩) ?_ ?_
      rotate_left
      · intro w'
        go_simp
        with_reducible rfl
      rotate_left
      · simp only [Act.put, List.setIfInBounds_toArray, List.set_cons_zero, List.set_cons_succ, i64_w, i32_w]
        rfl
      refine one_ (i := 6) (N := some 9) #[true, true, true, true, true, true, true, false] rfl rfl (by kernel_rfl) (by decide) (fun KC hK => ?_)
      refine box_step ?hg (N := 9) ?hd (cs := #[.int .i64 0, .int .i64 0, .int .i64 0, .int .i64 0, .slice none 0 0]) (t := 26) ?hr ?_
      case hd => rfl
      case hg => rfl
      case hr => first | (go_simp; done) | (go_simp; rfl)
      intro g9 hg w4 hbox hb
      have K' := Aside0.mk (K.out.box (below_size K.out.below) hg hbox hb trivial)
      clear K
      have K := K'
      clear K'
      clear hg hbox hb hHeld
      refine hK.out _ _ (K.out.get 2 rfl) (fun hHeld0 => ?_)
      have hHeld := Aside0.mk hHeld0
      clear hHeld0
      clear hK KC
      refine norm_ (a' := ?_) ?_ ?_
      rotate_left
      · show Act.put _ (some 9) _ = _
        simp only [Act.put, List.setIfInBounds_toArray, List.set_cons_zero, List.set_cons_succ, i64_w, i32_w]
        rfl
      refine last_ (i := 7) (N := none) #[true, true, true, true, true, true, true, true] rfl rfl (by kernel_rfl) (by decide) (fun KC hK => ?_)
      refine store_step (cs := #[.int .i64 x0, .int .i64 y0, .int .i64 x1, .int .i64 y1, .slice A9 D.length d9]) (by rfl) rfl 26 (.tmp 9) (.tmp 36) rfl rfl (by kernel_rfl) (K.out.get 0 rfl) rfl rfl (by first | (kernel_rfl) | (simp [Value.oneCell'])) ?_
      intro WS hs
      refine hK.out _ _ ?_
      have K' := Aside0.mk (K.out.stored 0 rfl hs)
      clear K
      have K := K'
      clear K'
      clear hK KC hs hHeld
      refine done_ (by kernel_rfl) ?_
      go_wp2
      go_meet
      case rel => exact ⟨_, _, _, rfl, ⟨K.out⟩⟩
    · skip
      refine box_step ?hg (N := 9) ?hd (cs := #[.int .i64 0, .int .i64 0, .int .i64 0, .int .i64 0, .slice none 0 0]) (t := 26) ?hr ?_
      case hd => rfl
      case hg => rfl
      case hr => first | (go_simp; done) | (go_simp; rfl)
      intro g9 hg w4 hbox hb
      have K' := Aside0.mk (K.out.box (below_size K.out.below) hg hbox hb trivial)
      clear K
      have K := K'
      clear K'
      clear hg hbox hb hHeld
      refine hK.out _ _ (K.out.get 2 rfl) (fun hHeld0 => ?_)
      have hHeld := Aside0.mk hHeld0
      clear hHeld0
      clear hK KC
      refine norm_ (a' := ?_) ?_ ?_
      rotate_left
      · show Act.put _ (some 9) _ = _
        simp only [Act.put, List.setIfInBounds_toArray, List.set_cons_zero, List.set_cons_succ, i64_w, i32_w]
        rfl
      refine one_ (i := 4) (N := some 35) #[true, true, true, true, true, false, true, false] rfl rfl (by kernel_rfl) (by decide) (fun KC hK => ?_)
      refine Kd.R_append_rows_step (Kd.int .i64) (w0 := w4) w4.heap.size (by rfl) (.const (.slice none 0 0)) (.tmp 34) 24 3 (.int .i64 0) 8 rfl Try.underlying24 info3 rfl (by decide) (by omega) (.slice none 0 0) [] D A D.length c (fun _ => True) (fun _ => False) rfl rfl (Kd.R_nil _ _ _ _ _) (Kd.C_below HR.out K.out.below) (fun _ _ h => h) (fun _ h => h.elim) (fun _ _ => trivial) (Below.refl _ _) (Nat.le_refl _) (by have := HDL.out; simp; omega) ?_
      intro v0 w5 ho hb hg hat
      rw [List.nil_append] at ho
      obtain ⟨A9, d9, rfl⟩ := Kd.R_slice ho
      have K' := Aside0.mk (K.out.add (below_size K.out.below) ho hb)
      clear K
      have K := K'
      clear K'
      clear ho hb hg hat hHeld
      refine hK.out _ _ (K.out.get 2 rfl) (fun hHeld0 => ?_)
      have hHeld := Aside0.mk hHeld0
      clear hHeld0
      clear hK KC
      refine norm_ (a' := ?_) ?_ ?_
      rotate_left
      · show Act.put _ (some 35) _ = _
        simp only [Act.put, List.setIfInBounds_toArray, List.set_cons_zero, List.set_cons_succ, i64_w, i32_w]
        rfl
      refine pure_ (i := 5) (N := some 36) (v := ?_) (a' := ?_) #[true, true, true, true, true, true, true, false] rfl rfl (by kernel_rfl) (fun _ _ _ h => h) (Or.inl ⟨by rfl, ?_⟩) ?_ ?_
      rotate_left
      · intro w'
        go_simp
        with_reducible rfl
      rotate_left
      · simp only [Act.put, List.setIfInBounds_toArray, List.set_cons_zero, List.set_cons_succ, i64_w, i32_w]
        rfl
      refine last_ (i := 7) (N := none) #[true, true, true, true, true, true, true, true] rfl rfl (by kernel_rfl) (by decide) (fun KC hK => ?_)
      refine store_step (cs := #[.int .i64 x0, .int .i64 y0, .int .i64 x1, .int .i64 y1, .slice A9 D.length d9]) (by rfl) rfl 26 (.tmp 9) (.tmp 36) rfl rfl (by kernel_rfl) (K.out.get 0 rfl) rfl rfl (by first | (kernel_rfl) | (simp [Value.oneCell'])) ?_
      intro WS hs
      refine hK.out _ _ ?_
      have K' := Aside0.mk (K.out.stored 0 rfl hs)
      clear K
      have K := K'
      clear K'
      clear hK KC hs hHeld
      refine done_ (by kernel_rfl) ?_
      go_wp2
      go_meet
      case rel => exact ⟨_, _, _, rfl, ⟨K.out⟩⟩
  case rest =>
  obtain ⟨g9, A9, d9, rfl, K⟩ := hcut
  clear HDL HDL0 HR HC
  go_wp2
  go_loopg [10] n (fun kq v10 w' => ∃ (u : Pl) (A9 : Option Addr) (d9 : Nat) (bs' : List Pl) (done : List (Value × Pl)), v10 = .int .i64 (kq : Int) ∧ Aside0 (Ana kk kq u bs') ∧ Aside0 (bs = bs' ++ done.map (·.2)) ∧ Aside0 (Hold w.heap.size w w' [(g9, 26, #[.int .i64 u.x0, .int .i64 u.y0, .int .i64 u.x1, .int .i64 u.y1, .slice A9 u.D.length d9]), (gS, 26, cellsOf (List.replicate (3 * kq + 1) zeroPl ++ done)), (g3, 26, #[.int .i64 x0, .int .i64 y0, .int .i64 x1, .int .i64 y1, .slice A D.length c])] ((.slice A9 u.D.length d9, u.D) :: rowsOf done)))
  case atStart => exact ⟨⟨x0, y0, x1, y1, D⟩, A9, d9, bs, [], rfl, HA, ⟨by simp⟩, ⟨by rw [List.append_nil, ← HMM.out.1]; exact K.out⟩⟩
  case round =>
  clear K HA
  obtain ⟨u, A9, d9, bs', done, rfl, HA, HBS, K⟩ := hrel
  have hlen : m = 3 * gk + 1 + done.length := by
    have h1 := HA.out.len
    have h2 := congrArg List.length HBS.out
    rw [List.length_append, List.length_map, h1, HLB.out] at h2
    have := HMM.out.1
    omega
  cases gk with
  | zero =>
    have hb0 : decide ((0 : Int) < ((0 : Nat) : Int)) = false := rfl
    have hb1 : (0 < m) = True := eq_true (by omega)
    have hb2 : ((0 : Int) < (m : Int)) = True := eq_true (by omega)
    have HL1 := Aside0.mk hlen
    clear hlen
    go_wp2_with (first
      | ((with_reducible refine gate_dst (N := 68) rfl ?_); refine load_ev rfl 26 (.tmp 9) rfl rfl (K.out.get 0 rfl) Try.underlying26 rfl ?_)
      | ((with_reducible refine gate_store (t := 26) (p := 69) (v := .tmp 68) rfl ?_); refine store_mid_ev (i := 0) (cs := #[.int .i64 u.x0, .int .i64 u.y0, .int .i64 u.x1, .int .i64 u.y1, .slice A9 u.D.length d9]) rfl rfl 26 (.tmp 69) (.tmp 68) rfl rfl rfl (K.out.get 1 rfl) (by rw [cellsOf_size, List.length_append, List.length_replicate]; show 0 + 5 ≤ _; omega) rfl (by first | (kernel_rfl) | (simp [Value.oneCell'])) (new := cellsOf ((.slice A9 u.D.length d9, u) :: done)) (cellsOf_set (l := List.replicate 1 zeroPl ++ done) (j := 0) (q := (.slice A9 u.D.length d9, u)) (by simp)) ?_; intro wS hs; have K' := Aside0.mk (K.out.stored 1 rfl hs); clear K; have K := K'; clear K'; clear hs))
    go_ret2
    refine ⟨gS, (.slice A9 u.D.length d9, u) :: done, ?_, ?_, ?_⟩
    · rw [HBS.out]
      obtain ⟨h⟩ := HA
      cases h
      rfl
    · have e : ((.slice A9 u.D.length d9, u) :: done : List (Value × Pl)).length = m := by rw [HL1.out, List.length_cons]; omega
      rw [e]
      rfl
    · have HK := K.out
      exact ⟨⟨fun i b hi => HK.bks.blk (i + 1) b (by rcases i with _ | i; exact hi; simp at hi), fun i j b c hij hi hj => by rcases i with _ | i; (rcases j with _ | j; exact absurd rfl hij; simp at hj); simp at hi, fun i b hi => HK.bks.ge (i + 1) b (by rcases i with _ | i; exact hi; simp at hi), HK.below⟩, fun i j b p hi hj => HK.off (i + 1) j b p (by rcases i with _ | i; exact hi; simp at hi) hj, HK.row, HK.apart⟩
  | succ kq =>
    obtain ⟨z, hz⟩ : ∃ z : Int, z = ((kq + 1 : Nat) : Int) := ⟨_, rfl⟩
    rw [← hz]
    have HZ := Aside0.mk hz
    have hb0 : decide (0 < z) = true := decide_eq_true (by omega)
    have hz1 : wrap64 (z - 1) = (kq : Int) := by have := HMM.out; unfold wrap64; omega
    have HJ := Aside0.mk (show wrap64 (wrap64 (wrap64 (3 * z) - 3) + 1) = ((3 * kq + 1 : Nat) : Int) ∧ wrap64 (wrap64 (wrap64 (3 * z) - 3) + 2) = ((3 * kq + 2 : Nat) : Int) ∧ wrap64 (wrap64 (wrap64 (3 * z) - 3) + 3) = ((3 * kq + 3 : Nat) : Int) by have := HMM.out; unfold wrap64; omega)
    have HMQ := Aside0.mk hlen
    clear hz hlen
    have hA := HA.out
    clear HA
    cases hA with
    | succ _ X0 Y0 X1 Y1 D2 a0 a1 c0 c1 e0 e1 f0 f1 G0 G1 G2 G3 bs2 hsp hb2 =>
    have HSP := Aside0.mk hsp
    have HB2 := Aside0.mk hb2
    clear hsp hb2
    dsimp only at K
    go_wp2_with (first
      | ((with_reducible refine gate_dst (N := 43) rfl ?_); refine load_ev rfl 26 (.tmp 9) rfl rfl (K.out.get 0 rfl) Try.underlying26 rfl ?_)
      | (go_at_call 30; (with_reducible refine (dwt_Split.to kk X0 Y0 X1 Y1 A9 d9 D2 G0 G1 G2 G3 a0 a1 c0 c1 e0 e1 f0 f1 _ (K.out.readAt 0 rfl).2.2 (K.out.readAt 0 rfl).2.1 HSP.out).mono ?_); rintro _ w30a ⟨v0, v1, v2, v3, rfl, hH⟩; have K' := Aside0.mk (K.out.join (below_size K.out.below) hH); clear K; have K := K'; clear K'; obtain ⟨B0, b0, rfl⟩ := Kd.R_slice (hH.rowAt 0 rfl); obtain ⟨B1, b1, rfl⟩ := Kd.R_slice (hH.rowAt 1 rfl); obtain ⟨B2, b2, rfl⟩ := Kd.R_slice (hH.rowAt 2 rfl); obtain ⟨B3, b3, rfl⟩ := Kd.R_slice (hH.rowAt 3 rfl); clear hH)
      | ((with_reducible refine gate_dst (N := 11) rfl ?_); refine box_event ?hg (N := 11) ?hd (cs := #[.int .i64 0, .int .i64 0, .int .i64 0, .int .i64 0, .slice none 0 0, .int .i64 0, .int .i64 0, .int .i64 0, .int .i64 0, .slice none 0 0, .int .i64 0, .int .i64 0, .int .i64 0, .int .i64 0, .slice none 0 0, .int .i64 0, .int .i64 0, .int .i64 0, .int .i64 0, .slice none 0 0]) (t := 59) ?hr ?_; (case hd => rfl); (case hg => rfl); (case hr => first | (go_simp; done) | (go_simp; rfl)); intro g11 hg W11 hbox hb; have K' := Aside0.mk (K.out.box (below_size K.out.below) hg hbox hb trivial); clear K; have K := K'; clear K'; clear hg hbox hb)
      | ((with_reducible refine gate_store (t := 59) (p := 11) (v := .tmp 46) rfl ?_); refine store_ev rfl rfl 59 (.tmp 11) (.tmp 46) rfl rfl rfl (K.out.get 0 rfl) rfl rfl (by first | (kernel_rfl) | (simp [Value.oneCell'])) ?_; intro w11s hs; have K' := Aside0.mk (K.out.stored 0 rfl hs); clear K; have K := K'; clear K'; clear hs))
    clear hb0
    go_loopg [13] 3 (fun kr v13 w' => (v13 = .int .i64 1 ∧ kr + 1 = 4 ∧ Aside0 (Hold w.heap.size w w' ([(g11, 59, #[.int .i64 a0, .int .i64 e0, .int .i64 c0, .int .i64 f0, .slice B0 G0.length b0, .int .i64 a1, .int .i64 e0, .int .i64 c1, .int .i64 f0, .slice B1 G1.length b1, .int .i64 a0, .int .i64 e1, .int .i64 c0, .int .i64 f1, .slice B2 G2.length b2, .int .i64 a1, .int .i64 e1, .int .i64 c1, .int .i64 f1, .slice B3 G3.length b3]), (g9, 26, #[.int .i64 X0, .int .i64 Y0, .int .i64 X1, .int .i64 Y1, .slice A9 D2.length d9]), (gS, 26, cellsOf (List.replicate (3 * (kq + 1) + 1) zeroPl ++ done)), (g3, 26, #[.int .i64 x0, .int .i64 y0, .int .i64 x1, .int .i64 y1, .slice A D.length c])]) ([(.slice B0 G0.length b0, G0), (.slice B1 G1.length b1, G1), (.slice B2 G2.length b2, G2), (.slice B3 G3.length b3, G3)] ++ ((.slice A9 D2.length d9, D2) :: rowsOf done)))) ∨ (v13 = .int .i64 2 ∧ kr + 2 = 4 ∧ Aside0 (Hold w.heap.size w w' ([(g11, 59, #[.int .i64 a0, .int .i64 e0, .int .i64 c0, .int .i64 f0, .slice B0 G0.length b0, .int .i64 a1, .int .i64 e0, .int .i64 c1, .int .i64 f0, .slice B1 G1.length b1, .int .i64 a0, .int .i64 e1, .int .i64 c0, .int .i64 f1, .slice B2 G2.length b2, .int .i64 a1, .int .i64 e1, .int .i64 c1, .int .i64 f1, .slice B3 G3.length b3]), (g9, 26, #[.int .i64 X0, .int .i64 Y0, .int .i64 X1, .int .i64 Y1, .slice A9 D2.length d9]), (gS, 26, cellsOf ((List.replicate (3 * (kq + 1) + 1) zeroPl ++ done).set (3 * kq + 1) (.slice B1 G1.length b1, ⟨a1, e0, c1, f0, G1⟩))), (g3, 26, #[.int .i64 x0, .int .i64 y0, .int .i64 x1, .int .i64 y1, .slice A D.length c])]) ([(.slice B0 G0.length b0, G0), (.slice B1 G1.length b1, G1), (.slice B2 G2.length b2, G2), (.slice B3 G3.length b3, G3)] ++ ((.slice A9 D2.length d9, D2) :: rowsOf done)))) ∨ (v13 = .int .i64 3 ∧ kr + 3 = 4 ∧ Aside0 (Hold w.heap.size w w' ([(g11, 59, #[.int .i64 a0, .int .i64 e0, .int .i64 c0, .int .i64 f0, .slice B0 G0.length b0, .int .i64 a1, .int .i64 e0, .int .i64 c1, .int .i64 f0, .slice B1 G1.length b1, .int .i64 a0, .int .i64 e1, .int .i64 c0, .int .i64 f1, .slice B2 G2.length b2, .int .i64 a1, .int .i64 e1, .int .i64 c1, .int .i64 f1, .slice B3 G3.length b3]), (g9, 26, #[.int .i64 X0, .int .i64 Y0, .int .i64 X1, .int .i64 Y1, .slice A9 D2.length d9]), (gS, 26, cellsOf (((List.replicate (3 * (kq + 1) + 1) zeroPl ++ done).set (3 * kq + 1) (.slice B1 G1.length b1, ⟨a1, e0, c1, f0, G1⟩)).set (3 * kq + 2) (.slice B2 G2.length b2, ⟨a0, e1, c0, f1, G2⟩))), (g3, 26, #[.int .i64 x0, .int .i64 y0, .int .i64 x1, .int .i64 y1, .slice A D.length c])]) ([(.slice B0 G0.length b0, G0), (.slice B1 G1.length b1, G1), (.slice B2 G2.length b2, G2), (.slice B3 G3.length b3, G3)] ++ ((.slice A9 D2.length d9, D2) :: rowsOf done)))) ∨ (v13 = .int .i64 4 ∧ kr + 4 = 4 ∧ Aside0 (Hold w.heap.size w w' ([(g11, 59, #[.int .i64 a0, .int .i64 e0, .int .i64 c0, .int .i64 f0, .slice B0 G0.length b0, .int .i64 a1, .int .i64 e0, .int .i64 c1, .int .i64 f0, .slice B1 G1.length b1, .int .i64 a0, .int .i64 e1, .int .i64 c0, .int .i64 f1, .slice B2 G2.length b2, .int .i64 a1, .int .i64 e1, .int .i64 c1, .int .i64 f1, .slice B3 G3.length b3]), (g9, 26, #[.int .i64 X0, .int .i64 Y0, .int .i64 X1, .int .i64 Y1, .slice A9 D2.length d9]), (gS, 26, cellsOf ((((List.replicate (3 * (kq + 1) + 1) zeroPl ++ done).set (3 * kq + 1) (.slice B1 G1.length b1, ⟨a1, e0, c1, f0, G1⟩)).set (3 * kq + 2) (.slice B2 G2.length b2, ⟨a0, e1, c0, f1, G2⟩)).set (3 * kq + 3) (.slice B3 G3.length b3, ⟨a1, e1, c1, f1, G3⟩))), (g3, 26, #[.int .i64 x0, .int .i64 y0, .int .i64 x1, .int .i64 y1, .slice A D.length c])]) ([(.slice B0 G0.length b0, G0), (.slice B1 G1.length b1, G1), (.slice B2 G2.length b2, G2), (.slice B3 G3.length b3, G3)] ++ ((.slice A9 D2.length d9, D2) :: rowsOf done)))))
    case atStart => exact .inl ⟨rfl, rfl, ⟨K.out⟩⟩
    case round =>
    clear K
    have HLEN1 := Aside0.mk (show 3 * kq + 1 < (List.replicate (3 * (kq + 1) + 1) zeroPl ++ done).length by simp <;> omega)
    have HLEN2 := Aside0.mk (show 3 * kq + 2 < ((List.replicate (3 * (kq + 1) + 1) zeroPl ++ done).set (3 * kq + 1) (.slice B1 G1.length b1, ⟨a1, e0, c1, f0, G1⟩)).length by simp <;> omega)
    have HLEN3 := Aside0.mk (show 3 * kq + 3 < (((List.replicate (3 * (kq + 1) + 1) zeroPl ++ done).set (3 * kq + 1) (.slice B1 G1.length b1, ⟨a1, e0, c1, f0, G1⟩)).set (3 * kq + 2) (.slice B2 G2.length b2, ⟨a0, e1, c0, f1, G2⟩)).length by simp <;> omega)
    rcases hrel with ⟨rfl, hn4, K⟩ | ⟨rfl, hn4, K⟩ | ⟨rfl, hn4, K⟩ | ⟨rfl, hn4, K⟩
    · have hj := HJ.out.1
      obtain ⟨j, hj1⟩ : ∃ j : Nat, j = 3 * kq + 1 := ⟨_, rfl⟩
      have hj0 : wrap64 (wrap64 (wrap64 (3 * z) - 3) + 1) = (j : Int) := by rw [hj, hj1]
      have hjl : ((j : Int) < (m : Int)) = True := eq_true (by have := HMQ.out; omega)
      have hjm : (j < m) = True := eq_true (by have := HMQ.out; omega)
      have HJJ := Aside0.mk hj1
      clear hj hj1
      have hb0 : decide ((1 : Int) < 4) = true := rfl
      go_wp2_with (first
        | ((with_reducible refine gate_dst (N := 63) rfl ?_); refine load_mid_ev (i := 5) (cs := #[.int .i64 a1, .int .i64 e0, .int .i64 c1, .int .i64 f0, .slice B1 G1.length b1]) rfl 26 (.tmp 62) rfl rfl (K.out.get 0 rfl) (fun j v hj => by rcases j with _ | _ | _ | _ | _ | j <;> first | exact hj | (simp at hj)) Try.underlying26 rfl rfl ?_)
        | ((with_reducible refine gate_store (t := 26) (p := 64) (v := .tmp 63) rfl ?_); refine store_mid_ev (i := j * 5) (cs := #[.int .i64 a1, .int .i64 e0, .int .i64 c1, .int .i64 f0, .slice B1 G1.length b1]) rfl rfl 26 (.tmp 64) (.tmp 63) rfl rfl rfl (K.out.get 2 rfl) (by rw [cellsOf_size]; show j * 5 + 5 ≤ _; have := HLEN1.out; have := HJJ.out; omega) rfl (by first | (kernel_rfl) | (simp [Value.oneCell'])) (new := cellsOf ((List.replicate (3 * (kq + 1) + 1) zeroPl ++ done).set (3 * kq + 1) (.slice B1 G1.length b1, ⟨a1, e0, c1, f0, G1⟩))) (by rw [show j * 5 = 5 * (3 * kq + 1) by have := HJJ.out; omega]; exact cellsOf_set (q := (.slice B1 G1.length b1, ⟨a1, e0, c1, f0, G1⟩)) (by have := HLEN1.out; omega)) ?_; intro wS hs; have K' := Aside0.mk (K.out.stored 2 rfl hs); clear K; have K := K'; clear K'; clear hs))
      go_roundg (2)
      case measure => omega
      case rel => exact .inr (.inl ⟨rfl, by omega, ⟨K.out⟩⟩)
    · have hj := HJ.out.2.1
      obtain ⟨j, hj1⟩ : ∃ j : Nat, j = 3 * kq + 2 := ⟨_, rfl⟩
      have hj0 : wrap64 (wrap64 (wrap64 (3 * z) - 3) + 2) = (j : Int) := by rw [hj, hj1]
      have hjl : ((j : Int) < (m : Int)) = True := eq_true (by have := HMQ.out; omega)
      have hjm : (j < m) = True := eq_true (by have := HMQ.out; omega)
      have HJJ := Aside0.mk hj1
      clear hj hj1
      have hb0 : decide ((2 : Int) < 4) = true := rfl
      go_wp2_with (first
        | ((with_reducible refine gate_dst (N := 63) rfl ?_); refine load_mid_ev (i := 10) (cs := #[.int .i64 a0, .int .i64 e1, .int .i64 c0, .int .i64 f1, .slice B2 G2.length b2]) rfl 26 (.tmp 62) rfl rfl (K.out.get 0 rfl) (fun j v hj => by rcases j with _ | _ | _ | _ | _ | j <;> first | exact hj | (simp at hj)) Try.underlying26 rfl rfl ?_)
        | ((with_reducible refine gate_store (t := 26) (p := 64) (v := .tmp 63) rfl ?_); refine store_mid_ev (i := j * 5) (cs := #[.int .i64 a0, .int .i64 e1, .int .i64 c0, .int .i64 f1, .slice B2 G2.length b2]) rfl rfl 26 (.tmp 64) (.tmp 63) rfl rfl rfl (K.out.get 2 rfl) (by rw [cellsOf_size]; show j * 5 + 5 ≤ _; have := HLEN2.out; have := HJJ.out; omega) rfl (by first | (kernel_rfl) | (simp [Value.oneCell'])) (new := cellsOf (((List.replicate (3 * (kq + 1) + 1) zeroPl ++ done).set (3 * kq + 1) (.slice B1 G1.length b1, ⟨a1, e0, c1, f0, G1⟩)).set (3 * kq + 2) (.slice B2 G2.length b2, ⟨a0, e1, c0, f1, G2⟩))) (by rw [show j * 5 = 5 * (3 * kq + 2) by have := HJJ.out; omega]; exact cellsOf_set (q := (.slice B2 G2.length b2, ⟨a0, e1, c0, f1, G2⟩)) (by have := HLEN2.out; omega)) ?_; intro wS hs; have K' := Aside0.mk (K.out.stored 2 rfl hs); clear K; have K := K'; clear K'; clear hs))
      go_roundg (1)
      case measure => omega
      case rel => exact .inr (.inr (.inl ⟨rfl, by omega, ⟨K.out⟩⟩))
    · have hj := HJ.out.2.2
      obtain ⟨j, hj1⟩ : ∃ j : Nat, j = 3 * kq + 3 := ⟨_, rfl⟩
      have hj0 : wrap64 (wrap64 (wrap64 (3 * z) - 3) + 3) = (j : Int) := by rw [hj, hj1]
      have hjl : ((j : Int) < (m : Int)) = True := eq_true (by have := HMQ.out; omega)
      have hjm : (j < m) = True := eq_true (by have := HMQ.out; omega)
      have HJJ := Aside0.mk hj1
      clear hj hj1
      have hb0 : decide ((3 : Int) < 4) = true := rfl
      go_wp2_with (first
        | ((with_reducible refine gate_dst (N := 63) rfl ?_); refine load_mid_ev (i := 15) (cs := #[.int .i64 a1, .int .i64 e1, .int .i64 c1, .int .i64 f1, .slice B3 G3.length b3]) rfl 26 (.tmp 62) rfl rfl (K.out.get 0 rfl) (fun j v hj => by rcases j with _ | _ | _ | _ | _ | j <;> first | exact hj | (simp at hj)) Try.underlying26 rfl rfl ?_)
        | ((with_reducible refine gate_store (t := 26) (p := 64) (v := .tmp 63) rfl ?_); refine store_mid_ev (i := j * 5) (cs := #[.int .i64 a1, .int .i64 e1, .int .i64 c1, .int .i64 f1, .slice B3 G3.length b3]) rfl rfl 26 (.tmp 64) (.tmp 63) rfl rfl rfl (K.out.get 2 rfl) (by rw [cellsOf_size]; show j * 5 + 5 ≤ _; have := HLEN3.out; have := HJJ.out; omega) rfl (by first | (kernel_rfl) | (simp [Value.oneCell'])) (new := cellsOf ((((List.replicate (3 * (kq + 1) + 1) zeroPl ++ done).set (3 * kq + 1) (.slice B1 G1.length b1, ⟨a1, e0, c1, f0, G1⟩)).set (3 * kq + 2) (.slice B2 G2.length b2, ⟨a0, e1, c0, f1, G2⟩)).set (3 * kq + 3) (.slice B3 G3.length b3, ⟨a1, e1, c1, f1, G3⟩))) (by rw [show j * 5 = 5 * (3 * kq + 3) by have := HJJ.out; omega]; exact cellsOf_set (q := (.slice B3 G3.length b3, ⟨a1, e1, c1, f1, G3⟩)) (by have := HLEN3.out; omega)) ?_; intro wS hs; have K' := Aside0.mk (K.out.stored 2 rfl hs); clear K; have K := K'; clear K'; clear hs))
      go_roundg (0)
      case measure => omega
      case rel => exact .inr (.inr (.inr (⟨rfl, by omega, ⟨K.out⟩⟩)))
    · have hb0 : decide ((4 : Int) < 4) = false := rfl
      go_wp2_with (first
        | ((with_reducible refine gate_dst (N := 66) rfl ?_); refine load_mid_ev (i := 0) (cs := #[.int .i64 a0, .int .i64 e0, .int .i64 c0, .int .i64 f0, .slice B0 G0.length b0]) rfl 26 (.tmp 65) rfl rfl (K.out.get 0 rfl) (fun j v hj => by rcases j with _ | _ | _ | _ | _ | j <;> first | exact hj | (simp at hj)) Try.underlying26 rfl rfl ?_)
        | ((with_reducible refine gate_store (t := 26) (p := 9) (v := .tmp 66) rfl ?_); refine store_ev rfl rfl 26 (.tmp 9) (.tmp 66) rfl rfl rfl (K.out.get 1 rfl) rfl rfl (by first | (kernel_rfl) | (simp [Value.oneCell'])) ?_; intro w9s hs; have K' := Aside0.mk (K.out.stored 1 rfl hs); clear K; have K := K'; clear K'; clear hs))
      go_roundg kq
      case measure => omega
      case rel =>
        refine ⟨⟨a0, e0, c0, f0, G0⟩, B0, b0, bs2, (.slice B1 G1.length b1, ⟨a1, e0, c1, f0, G1⟩) :: (.slice B2 G2.length b2, ⟨a0, e1, c0, f1, G2⟩) :: (.slice B3 G3.length b3, ⟨a1, e1, c1, f1, G3⟩) :: done, by rw [hz1], HB2, ⟨by rw [HBS.out]; simp⟩, ⟨?_⟩⟩
        have HK := (K.out.tl).erase 4
        rw [final_planes] at HK
        exact HK
end Go.Proofs.Ytcnpekpgghppnaa.Q

/- The closure of pyramid.Synthesize. Printed by wip/tools of this session. -/
namespace Go.Proofs.Ytcnpekpgghppnaa.Q
open Go.RowKit Go.Proofs.YtcnpekpgghppnaaW.PrintWords Go.Proofs.YtcnpekpgghppnaaW.PrintLast Go.Proofs.YtcnpekpgghppnaaW.PrintMore
set_option linter.unusedVariables false
set_option linter.unusedSimpArgs false

section
variable {P : Program} {ops : Array Oper} {o : Oper} {a : Act} {t : Nat} {cs : List Value} {ty : TypeId} {d : TypeDesc} {g i : Nat}
theorem load_range_yields {S : World → Prop} (hw : Region.wanted o (yielded ops a.tmps) = true) (ty : TypeId) (x : Operand) (ho : o.op = .load ty x) (hx : a.eval x = .pointer (some ⟨g, i, none⟩)) (hS : ∀ w, S w → w.rangeAt g i cs) (hu : P.underlying ty = some d) (hd : d.isRow = true) (hi : (P.info? ty).map (·.size) = some cs.length) : YieldsIf P ops S o (.agg cs.toArray) a :=
  .inl ⟨hw, fun w hw' => by
    unfold execOp
    simp only [ho, hx, Sem.run_bind, run_loadAt_mid (P := P) w g i ty cs d (hS w hw') hu hd hi, Result.andThen_ok, Sem.run_pure]⟩
theorem load_range_ev {rest : List Oper} {Q : Exit → Act → World → Prop} {W : World} (hgd : o.guard = none) (ty : TypeId) (x : Operand) (ho : o.op = .load ty x) (hx : a.eval x = .pointer (some ⟨g, i, none⟩)) (hr : W.rangeAt g i cs) (hu : P.underlying ty = some d) (hd : d.isRow = true) (hi : (P.info? ty).map (·.size) = some cs.length)
    (h : wpList P ops Q rest (a.put o.dst (.agg cs.toArray)) W) : wpList P ops Q (o :: rest) a W :=
  wpList_plain hgd fun K hK => by
    unfold Oper.wp execOp
    simp only [ho, hx, Sem.run_bind, run_loadAt_mid (P := P) W g i ty cs d hr hu hd hi, Result.andThen_ok, Sem.run_pure]
    exact hK _ _ h
end
/-- A row of planes that came in. -/
structure Bds (w : World) (gb : Nat) (ps : List (Value × Pl)) : Prop where
  cells : ∀ (j : Nat) (p : Value × Pl), ps[j]? = some p → w.rangeAt gb (5 * j) (pcells p)
  data : ∀ (j : Nat) (p : Value × Pl), ps[j]? = some p → ∃ (A : Option Addr) (c : Nat), p.1 = .slice A p.2.D.length c ∧ p.2.D.length ≤ c ∧ Kd.C (Kd.int .i64) w A p.2.D.length p.2.D
theorem range_below {w W : World} {g i : Nat} {cs : List Value} (h : w.rangeAt g i cs) (hb : Below w.heap.size w W) : W.rangeAt g i cs := fun j v hj => by
  have h1 := h j v hj
  have h2 := World.block_lt_of_cell? w ⟨g, i + j, none⟩ h1
  have h3 := hb.block g h2
  unfold World.cell? at h1 ⊢
  rw [h3]
  exact h1
theorem Bds.below {w W : World} {gb : Nat} {ps : List (Value × Pl)} (h : Bds w gb ps) (hb : Below w.heap.size w W) : Bds W gb ps :=
  ⟨fun j p hj => range_below (h.cells j p hj) hb, fun j p hj => by
    obtain ⟨A, c, e, hc, hr⟩ := h.data j p hj
    exact ⟨A, c, e, hc, Kd.C_below hr hb⟩⟩
set_option maxHeartbeats 8000000 in
set_option maxRecDepth 100000 in
theorem pyramid_Syn1.good (kr q : Nat) (n z kk x0 y0 x1 y1 X0 Y0 X1 Y1 a0 a1 c0 c1 e0 e1 f0 f1 : Int) (A0 A1 A2 A3 : Option Addr) (d0 d1 d2 d3 : Nat) (D0 D1 D2 D3 G : List Int) (ps : List (Value × Pl)) (n0 gb N cN gP g10 gK gL gR gB : Nat) (w0 w : World)
    (hbd : Bds w0 gb ps) (hn : n0 = w0.heap.size) (hq : z = ((q + 1 : Nat) : Int) ∧ q ≤ 5) (hnn : 3 * q + 3 < N) (hp1 : ps[3 * q + 1]? = some (.slice A1 D1.length d1, ⟨a1, e0, c1, f0, D1⟩)) (hp2 : ps[3 * q + 2]? = some (.slice A2 D2.length d2, ⟨a0, e1, c0, f1, D2⟩)) (hp3 : ps[3 * q + 3]? = some (.slice A3 D3.length d3, ⟨a1, e1, c1, f1, D3⟩)) (hrs : pyramid_Resolution.f kr x0 y0 x1 y1 n z = some (X0, Y0, X1, Y1)) (hmt : MergeTo kk X0 Y0 X1 Y1 a0 a1 c0 c1 e0 e1 f0 f1 D0 D1 D2 D3 G) (hK : Hold n0 w0 w [(gP, 26, #[.int .i64 a0, .int .i64 e0, .int .i64 c0, .int .i64 f0, .slice A0 D0.length d0]), (g10, 26, #[.int .i64 0, .int .i64 0, .int .i64 0, .int .i64 0, .slice none 0 0]), (gK, 28, #[.int .i64 kk]), (gL, 3, #[.int .i64 n]), (gR, 23, #[.int .i64 x0, .int .i64 y0, .int .i64 x1, .int .i64 y1]), (gB, 32, #[.slice (some ⟨gb, 0, none⟩) N cN])] [(.slice A0 D0.length d0, D0)]) :
    Calls Try.prog 40 #[.int .i64 z, .pointer (some ⟨gP, 0, none⟩), .pointer (some ⟨gB, 0, none⟩), .pointer (some ⟨gR, 0, none⟩), .pointer (some ⟨gL, 0, none⟩), .pointer (some ⟨gK, 0, none⟩)] w fun e w' => e = .returned (.int .i64 0) ∧ ∃ (A : Option Addr) (d : Nat), Hold n0 w0 w' [(gP, 26, #[.int .i64 X0, .int .i64 Y0, .int .i64 X1, .int .i64 Y1, .slice A G.length d]), (g10, 26, #[.int .i64 0, .int .i64 0, .int .i64 0, .int .i64 0, .slice none 0 0]), (gK, 28, #[.int .i64 kk]), (gL, 3, #[.int .i64 n]), (gR, 23, #[.int .i64 x0, .int .i64 y0, .int .i64 x1, .int .i64 y1]), (gB, 32, #[.slice (some ⟨gb, 0, none⟩) N cN])] [(.slice A G.length d, G)] := by
  have HJ := Aside0.mk (show wrap64 (wrap64 (3 * z) - 2) = ((3 * q + 1 : Nat) : Int) ∧ wrap64 (wrap64 (3 * z) - 1) = ((3 * q + 2 : Nat) : Int) ∧ wrap64 (3 * z) = ((3 * q + 3 : Nat) : Int) by have := hq; unfold wrap64; omega)
  have HBD := Aside0.mk hbd
  have HN := Aside0.mk hn
  have HQ := Aside0.mk hq
  have HNN := Aside0.mk hnn
  have HP1 := Aside0.mk hp1
  have HP2 := Aside0.mk hp2
  have HP3 := Aside0.mk hp3
  have HRS := Aside0.mk hrs
  have HMT := Aside0.mk hmt
  have K := Aside0.mk hK
  have hj3 := HJ.out.2.2
  obtain ⟨j3, hk3⟩ : ∃ j : Nat, j = 3 * q + 3 := ⟨_, rfl⟩
  rw [← hk3] at hj3
  have hl3 : ((j3 : Int) < (N : Int)) = True := eq_true (by omega)
  have hm3 : (j3 < N) = True := eq_true (by omega)
  have HR3 := Aside0.mk (show w0.rangeAt gb (j3 * 5) (pcells (.slice A3 D3.length d3, ⟨a1, e1, c1, f1, D3⟩)) by rw [show j3 * 5 = 5 * (3 * q + 3) by omega]; exact hbd.cells _ _ hp3)
  have HC3 := Aside0.mk (show D3.length ≤ d3 ∧ Kd.C (Kd.int .i64) w0 A3 D3.length D3 by
    obtain ⟨A, c, e, hc, hr⟩ := hbd.data _ _ hp3
    injection e with e1 e2 e3
    rw [e1, e3]
    exact ⟨hc, hr⟩)
  clear hk3
  have hj1 := HJ.out.1
  obtain ⟨j1, hk1⟩ : ∃ j : Nat, j = 3 * q + 1 := ⟨_, rfl⟩
  rw [← hk1] at hj1
  rw [hj3] at hj1
  have hl1 : ((j1 : Int) < (N : Int)) = True := eq_true (by omega)
  have hm1 : (j1 < N) = True := eq_true (by omega)
  have HR1 := Aside0.mk (show w0.rangeAt gb (j1 * 5) (pcells (.slice A1 D1.length d1, ⟨a1, e0, c1, f0, D1⟩)) by rw [show j1 * 5 = 5 * (3 * q + 1) by omega]; exact hbd.cells _ _ hp1)
  have HC1 := Aside0.mk (show D1.length ≤ d1 ∧ Kd.C (Kd.int .i64) w0 A1 D1.length D1 by
    obtain ⟨A, c, e, hc, hr⟩ := hbd.data _ _ hp1
    injection e with e1 e2 e3
    rw [e1, e3]
    exact ⟨hc, hr⟩)
  clear hk1
  have hj2 := HJ.out.2.1
  obtain ⟨j2, hk2⟩ : ∃ j : Nat, j = 3 * q + 2 := ⟨_, rfl⟩
  rw [← hk2] at hj2
  rw [hj3] at hj2
  have hl2 : ((j2 : Int) < (N : Int)) = True := eq_true (by omega)
  have hm2 : (j2 < N) = True := eq_true (by omega)
  have HR2 := Aside0.mk (show w0.rangeAt gb (j2 * 5) (pcells (.slice A2 D2.length d2, ⟨a0, e1, c0, f1, D2⟩)) by rw [show j2 * 5 = 5 * (3 * q + 2) by omega]; exact hbd.cells _ _ hp2)
  have HC2 := Aside0.mk (show D2.length ≤ d2 ∧ Kd.C (Kd.int .i64) w0 A2 D2.length D2 by
    obtain ⟨A, c, e, hc, hr⟩ := hbd.data _ _ hp2
    injection e with e1 e2 e3
    rw [e1, e3]
    exact ⟨hc, hr⟩)
  clear hk2
  clear hbd hn hq hnn hp1 hp2 hp3 hrs hmt hK
  go_enter Try.func40, Try.ntmps40
  go_upto_region 1 with (fail)
  go_cut [8] (fun v8 wc => ∃ (g8 : Nat), v8 = .pointer (some ⟨g8, 0, none⟩) ∧ Aside0 (Hold n0 w0 wc [(g8, 59, #[.int .i64 a0, .int .i64 e0, .int .i64 c0, .int .i64 f0, .slice A0 D0.length d0, .int .i64 a1, .int .i64 e0, .int .i64 c1, .int .i64 f0, .slice A1 D1.length d1, .int .i64 a0, .int .i64 e1, .int .i64 c0, .int .i64 f1, .slice A2 D2.length d2, .int .i64 a1, .int .i64 e1, .int .i64 c1, .int .i64 f1, .slice A3 D3.length d3]), (gP, 26, #[.int .i64 a0, .int .i64 e0, .int .i64 c0, .int .i64 f0, .slice A0 D0.length d0]), (g10, 26, #[.int .i64 0, .int .i64 0, .int .i64 0, .int .i64 0, .slice none 0 0]), (gK, 28, #[.int .i64 kk]), (gL, 3, #[.int .i64 n]), (gR, 23, #[.int .i64 x0, .int .i64 y0, .int .i64 x1, .int .i64 y1]), (gB, 32, #[.slice (some ⟨gb, 0, none⟩) N cN])] [(.slice A0 D0.length d0, D0)]))
  case first =>
    have K' := Aside0.mk (K.out.drew)
    clear K
    have K := K'
    clear K'
    refine start_ (n := 21) (S := fun w' => w'.heap[gP]? = some (.cells #[.int .i64 a0, .int .i64 e0, .int .i64 c0, .int .i64 f0, .slice A0 D0.length d0] 26 (0, 0)) ∧ w'.cell? ⟨gB, 0, none⟩ = some (.slice (some ⟨gb, 0, none⟩) N cN) ∧ w'.rangeAt gb (j1 * 5) [.int .i64 a1, .int .i64 e0, .int .i64 c1, .int .i64 f0, .slice A1 D1.length d1] ∧ w'.rangeAt gb (j2 * 5) [.int .i64 a0, .int .i64 e1, .int .i64 c0, .int .i64 f1, .slice A2 D2.length d2] ∧ w'.rangeAt gb (j3 * 5) [.int .i64 a1, .int .i64 e1, .int .i64 c1, .int .i64 f1, .slice A3 D3.length d3]) (ds := [20]) #[false, false, false, false, false, false, false, false, false, false, false, false, false, false, false, false, false, false, false, false, false] (by kernel_rfl) rfl rfl ⟨K.out.get 0 rfl, K.out.cell 5 rfl 0 rfl, range_below HR1.out (HN.out ▸ K.out.below), range_below HR2.out (HN.out ▸ K.out.below), range_below HR3.out (HN.out ▸ K.out.below)⟩ (fun hHeld0 => ?_)
    generalize hw2 : w.drew = w2 at *
    clear hw2
    have hHeld := Aside0.mk hHeld0
    clear hHeld0
    refine take_ (i := 0) (N := some 11) (v := .agg #[.int .i64 a0, .int .i64 e0, .int .i64 c0, .int .i64 f0, .slice A0 D0.length d0]) (a' := ?_) #[true, false, false, false, false, false, false, false, false, false, false, false, false, false, false, false, false, false, false, false, false] rfl rfl (by kernel_rfl) (fun _ _ _ h => h) (load_all_yields (by rfl) 26 (.tmp 1) rfl rfl (fun _ h => h.1) Try.underlying26 rfl rfl) hHeld.out ?_ ?_
    rotate_left
    · simp only [Act.put, List.setIfInBounds_toArray, List.set_cons_zero, List.set_cons_succ, i64_w, i32_w]
      rfl
    refine take_ (i := 1) (N := some 12) (v := ?_) (a' := ?_) #[true, true, false, false, false, false, false, false, false, false, false, false, false, false, false, false, false, false, false, false, false] rfl rfl (by kernel_rfl) (fun _ _ _ h => h) (Or.inl ⟨by rfl, ?_⟩) hHeld.out ?_ ?_
    rotate_left
    · rintro w' ⟨s0, s1, s2, s3, s4⟩
      go_simp
      with_reducible rfl
    rotate_left
    · simp only [Act.put, List.setIfInBounds_toArray, List.set_cons_zero, List.set_cons_succ, i64_w, i32_w]
      rfl
    refine pure_ (i := 2) (N := some 13) (v := ?_) (a' := ?_) #[true, true, true, false, false, false, false, false, false, false, false, false, false, false, false, false, false, false, false, false, false] rfl rfl (by kernel_rfl) (fun _ _ _ h => h) (Or.inl ⟨by rfl, ?_⟩) ?_ ?_
    rotate_left
    · intro w'
      go_simp
      with_reducible rfl
    rotate_left
    · simp only [Act.put, List.setIfInBounds_toArray, List.set_cons_zero, List.set_cons_succ, i64_w, i32_w]
      rfl
    refine pure_ (i := 3) (N := some 14) (v := ?_) (a' := ?_) #[true, true, true, true, false, false, false, false, false, false, false, false, false, false, false, false, false, false, false, false, false] rfl rfl (by kernel_rfl) (fun _ _ _ h => h) (Or.inl ⟨by rfl, ?_⟩) ?_ ?_
    rotate_left
    · intro w'
      go_simp
      with_reducible rfl
    rotate_left
    · simp only [Act.put, List.setIfInBounds_toArray, List.set_cons_zero, List.set_cons_succ, i64_w, i32_w]
      rfl
    refine pure_ (i := 4) (N := some 15) (v := ?_) (a' := ?_) #[true, true, true, true, true, false, false, false, false, false, false, false, false, false, false, false, false, false, false, false, false] rfl rfl (by kernel_rfl) (fun _ _ _ h => h) (Or.inl ⟨by rfl, ?_⟩) ?_ ?_
    rotate_left
    · intro w'
      go_simp
      with_reducible rfl
    rotate_left
    · simp only [Act.put, List.setIfInBounds_toArray, List.set_cons_zero, List.set_cons_succ, i64_w, i32_w]
      rfl
    refine pure_ (i := 5) (N := some 16) (v := ?_) (a' := ?_) #[true, true, true, true, true, true, false, false, false, false, false, false, false, false, false, false, false, false, false, false, false] rfl rfl (by kernel_rfl) (fun _ _ _ h => h) (Or.inl ⟨by rfl, ?_⟩) ?_ ?_
    rotate_left
    · intro w'
      go_simp
      with_reducible rfl
    rotate_left
    · simp only [Act.put, List.setIfInBounds_toArray, List.set_cons_zero, List.set_cons_succ, i64_w, i32_w]
      rfl
    refine take_ (i := 6) (N := some 17) (v := .agg #[.int .i64 a1, .int .i64 e0, .int .i64 c1, .int .i64 f0, .slice A1 D1.length d1]) (a' := ?_) #[true, true, true, true, true, true, true, false, false, false, false, false, false, false, false, false, false, false, false, false, false] rfl rfl (by kernel_rfl) (fun _ _ _ h => h) (load_range_yields (cs := [.int .i64 a1, .int .i64 e0, .int .i64 c1, .int .i64 f0, .slice A1 D1.length d1]) (by rfl) 26 (.tmp 16) rfl rfl (fun _ h => h.2.2.1) Try.underlying26 rfl rfl) hHeld.out ?_ ?_
    rotate_left
    · simp only [Act.put, List.setIfInBounds_toArray, List.set_cons_zero, List.set_cons_succ, i64_w, i32_w]
      rfl
    refine take_ (i := 7) (N := some 18) (v := ?_) (a' := ?_) #[true, true, true, true, true, true, true, true, false, false, false, false, false, false, false, false, false, false, false, false, false] rfl rfl (by kernel_rfl) (fun _ _ _ h => h) (Or.inl ⟨by rfl, ?_⟩) hHeld.out ?_ ?_
    rotate_left
    · rintro w' ⟨s0, s1, s2, s3, s4⟩
      go_simp
      with_reducible rfl
    rotate_left
    · simp only [Act.put, List.setIfInBounds_toArray, List.set_cons_zero, List.set_cons_succ, i64_w, i32_w]
      rfl
    refine pure_ (i := 8) (N := some 19) (v := ?_) (a' := ?_) #[true, true, true, true, true, true, true, true, true, false, false, false, false, false, false, false, false, false, false, false, false] rfl rfl (by kernel_rfl) (fun _ _ _ h => h) (Or.inl ⟨by rfl, ?_⟩) ?_ ?_
    rotate_left
    · intro w'
      go_simp
      with_reducible rfl
    rotate_left
    · simp only [Act.put, List.setIfInBounds_toArray, List.set_cons_zero, List.set_cons_succ, i64_w, i32_w]
      rfl
    refine pure_ (i := 9) (N := some 20) (v := ?_) (a' := ?_) #[true, true, true, true, true, true, true, true, true, true, false, false, false, false, false, false, false, false, false, false, false] rfl rfl (by kernel_rfl) (fun _ _ _ h => h) (Or.inl ⟨by rfl, ?_⟩) ?_ ?_
    rotate_left
    · intro w'
      go_simp
      with_reducible rfl
    rotate_left
    · simp only [Act.put, List.setIfInBounds_toArray, List.set_cons_zero, List.set_cons_succ, i64_w, i32_w]
      rfl
    refine pure_ (i := 10) (N := some 21) (v := ?_) (a' := ?_) #[true, true, true, true, true, true, true, true, true, true, true, false, false, false, false, false, false, false, false, false, false] rfl rfl (by kernel_rfl) (fun _ _ _ h => h) (Or.inl ⟨by rfl, ?_⟩) ?_ ?_
    rotate_left
    · intro w'
      go_simp
      with_reducible rfl
    rotate_left
    · simp only [Act.put, List.setIfInBounds_toArray, List.set_cons_zero, List.set_cons_succ, i64_w, i32_w]
      rfl
    refine pure_ (i := 11) (N := some 22) (v := ?_) (a' := ?_) #[true, true, true, true, true, true, true, true, true, true, true, true, false, false, false, false, false, false, false, false, false] rfl rfl (by kernel_rfl) (fun _ _ _ h => h) (Or.inl ⟨by rfl, ?_⟩) ?_ ?_
    rotate_left
    · intro w'
      go_simp
      with_reducible rfl
    rotate_left
    · simp only [Act.put, List.setIfInBounds_toArray, List.set_cons_zero, List.set_cons_succ, i64_w, i32_w]
      rfl
    refine take_ (i := 12) (N := some 23) (v := .agg #[.int .i64 a0, .int .i64 e1, .int .i64 c0, .int .i64 f1, .slice A2 D2.length d2]) (a' := ?_) #[true, true, true, true, true, true, true, true, true, true, true, true, true, false, false, false, false, false, false, false, false] rfl rfl (by kernel_rfl) (fun _ _ _ h => h) (load_range_yields (cs := [.int .i64 a0, .int .i64 e1, .int .i64 c0, .int .i64 f1, .slice A2 D2.length d2]) (by rfl) 26 (.tmp 22) rfl rfl (fun _ h => h.2.2.2.1) Try.underlying26 rfl rfl) hHeld.out ?_ ?_
    rotate_left
    · simp only [Act.put, List.setIfInBounds_toArray, List.set_cons_zero, List.set_cons_succ, i64_w, i32_w]
      rfl
    refine take_ (i := 13) (N := some 24) (v := ?_) (a' := ?_) #[true, true, true, true, true, true, true, true, true, true, true, true, true, true, false, false, false, false, false, false, false] rfl rfl (by kernel_rfl) (fun _ _ _ h => h) (Or.inl ⟨by rfl, ?_⟩) hHeld.out ?_ ?_
    rotate_left
    · rintro w' ⟨s0, s1, s2, s3, s4⟩
      go_simp
      with_reducible rfl
    rotate_left
    · simp only [Act.put, List.setIfInBounds_toArray, List.set_cons_zero, List.set_cons_succ, i64_w, i32_w]
      rfl
    refine pure_ (i := 14) (N := some 25) (v := ?_) (a' := ?_) #[true, true, true, true, true, true, true, true, true, true, true, true, true, true, true, false, false, false, false, false, false] rfl rfl (by kernel_rfl) (fun _ _ _ h => h) (Or.inl ⟨by rfl, ?_⟩) ?_ ?_
    rotate_left
    · intro w'
      go_simp
      with_reducible rfl
    rotate_left
    · simp only [Act.put, List.setIfInBounds_toArray, List.set_cons_zero, List.set_cons_succ, i64_w, i32_w]
      rfl
    refine pure_ (i := 15) (N := some 26) (v := ?_) (a' := ?_) #[true, true, true, true, true, true, true, true, true, true, true, true, true, true, true, true, false, false, false, false, false] rfl rfl (by kernel_rfl) (fun _ _ _ h => h) (Or.inl ⟨by rfl, ?_⟩) ?_ ?_
    rotate_left
    · intro w'
      go_simp
      with_reducible rfl
    rotate_left
    · simp only [Act.put, List.setIfInBounds_toArray, List.set_cons_zero, List.set_cons_succ, i64_w, i32_w]
      rfl
    refine pure_ (i := 16) (N := some 27) (v := ?_) (a' := ?_) #[true, true, true, true, true, true, true, true, true, true, true, true, true, true, true, true, true, false, false, false, false] rfl rfl (by kernel_rfl) (fun _ _ _ h => h) (Or.inl ⟨by rfl, ?_⟩) ?_ ?_
    rotate_left
    · intro w'
      go_simp
      with_reducible rfl
    rotate_left
    · simp only [Act.put, List.setIfInBounds_toArray, List.set_cons_zero, List.set_cons_succ, i64_w, i32_w]
      rfl
    refine take_ (i := 17) (N := some 28) (v := .agg #[.int .i64 a1, .int .i64 e1, .int .i64 c1, .int .i64 f1, .slice A3 D3.length d3]) (a' := ?_) #[true, true, true, true, true, true, true, true, true, true, true, true, true, true, true, true, true, true, false, false, false] rfl rfl (by kernel_rfl) (fun _ _ _ h => h) (load_range_yields (cs := [.int .i64 a1, .int .i64 e1, .int .i64 c1, .int .i64 f1, .slice A3 D3.length d3]) (by rfl) 26 (.tmp 27) rfl rfl (fun _ h => h.2.2.2.2) Try.underlying26 rfl rfl) hHeld.out ?_ ?_
    rotate_left
    · simp only [Act.put, List.setIfInBounds_toArray, List.set_cons_zero, List.set_cons_succ, i64_w, i32_w]
      rfl
    refine pure_ (i := 18) (N := some 29) (v := ?_) (a' := ?_) #[true, true, true, true, true, true, true, true, true, true, true, true, true, true, true, true, true, true, true, false, false] rfl rfl (by kernel_rfl) (fun _ _ _ h => h) (Or.inl ⟨by rfl, ?_⟩) ?_ ?_
    rotate_left
    · intro w'
      go_simp
      with_reducible rfl
    rotate_left
    · simp only [Act.put, List.setIfInBounds_toArray, List.set_cons_zero, List.set_cons_succ, i64_w, i32_w]
      rfl
    refine one_ (i := 19) (N := some 8) #[true, true, true, true, true, true, true, true, true, true, true, true, true, true, true, true, true, true, true, true, false] rfl rfl (by kernel_rfl) (by decide) (fun KC hK => ?_)
    refine box_step ?hg (N := 8) ?hd (cs := #[.int .i64 0, .int .i64 0, .int .i64 0, .int .i64 0, .slice none 0 0, .int .i64 0, .int .i64 0, .int .i64 0, .int .i64 0, .slice none 0 0, .int .i64 0, .int .i64 0, .int .i64 0, .int .i64 0, .slice none 0 0, .int .i64 0, .int .i64 0, .int .i64 0, .int .i64 0, .slice none 0 0]) (t := 59) ?hr ?_
    case hd => rfl
    case hg => rfl
    case hr => first | (go_simp; done) | (go_simp; rfl)
    intro g8 hg w4 hbox hb
    have K' := Aside0.mk (K.out.box (K.out.size HN.out) hg hbox hb trivial)
    clear K
    have K := K'
    clear K'
    clear hg hbox hb hHeld
    refine hK.out _ _ ⟨K.out.get 1 rfl, K.out.cell 6 rfl 0 rfl, range_below HR1.out (HN.out ▸ K.out.below), range_below HR2.out (HN.out ▸ K.out.below), range_below HR3.out (HN.out ▸ K.out.below)⟩ (fun hHeld0 => ?_)
    have hHeld := Aside0.mk hHeld0
    clear hHeld0
    clear hK KC
    refine norm_ (a' := ?_) ?_ ?_
    rotate_left
    · show Act.put _ (some 8) _ = _
      simp only [Act.put, List.setIfInBounds_toArray, List.set_cons_zero, List.set_cons_succ, i64_w, i32_w]
      rfl
    refine last_ (i := 20) (N := none) #[true, true, true, true, true, true, true, true, true, true, true, true, true, true, true, true, true, true, true, true, true] rfl rfl (by kernel_rfl) (by decide) (fun KC hK => ?_)
    refine store_step (cs := #[.int .i64 a0, .int .i64 e0, .int .i64 c0, .int .i64 f0, .slice A0 D0.length d0, .int .i64 a1, .int .i64 e0, .int .i64 c1, .int .i64 f0, .slice A1 D1.length d1, .int .i64 a0, .int .i64 e1, .int .i64 c0, .int .i64 f1, .slice A2 D2.length d2, .int .i64 a1, .int .i64 e1, .int .i64 c1, .int .i64 f1, .slice A3 D3.length d3]) (by rfl) rfl 59 (.tmp 8) (.tmp 29) rfl rfl (by kernel_rfl) (K.out.get 0 rfl) rfl rfl (by first | (kernel_rfl) | (simp [Value.oneCell'])) ?_
    intro WS hs
    refine hK.out _ _ ?_
    have K' := Aside0.mk (K.out.stored 0 rfl hs)
    clear K
    have K := K'
    clear K'
    clear hK KC hs hHeld
    refine done_ (by kernel_rfl) ?_
    go_wp2
    go_meet
    case rel => exact ⟨_, rfl, ⟨K.out⟩⟩
  case rest =>
  obtain ⟨g8, rfl, K⟩ := hcut
  clear hj1 hl1 hm1 HR1
  clear hj2 hl2 hm2 HR2
  clear hj3 hl3 hm3 HR3
  go_upto_region 2 with (fail)
  go_cut [9, 10] (fun v9 v10 wd => ∃ (g9 : Nat) (Av : Option Addr) (dv : Nat), v9 = .pointer (some ⟨g9, 0, none⟩) ∧ v10 = .int .i64 0 ∧ Aside0 (Hold n0 w0 wd [(g9, 26, #[.int .i64 X0, .int .i64 Y0, .int .i64 X1, .int .i64 Y1, .slice Av G.length dv]), (g8, 59, #[.int .i64 a0, .int .i64 e0, .int .i64 c0, .int .i64 f0, .slice A0 D0.length d0, .int .i64 a1, .int .i64 e0, .int .i64 c1, .int .i64 f0, .slice A1 D1.length d1, .int .i64 a0, .int .i64 e1, .int .i64 c0, .int .i64 f1, .slice A2 D2.length d2, .int .i64 a1, .int .i64 e1, .int .i64 c1, .int .i64 f1, .slice A3 D3.length d3]), (gP, 26, #[.int .i64 a0, .int .i64 e0, .int .i64 c0, .int .i64 f0, .slice A0 D0.length d0]), (g10, 26, #[.int .i64 0, .int .i64 0, .int .i64 0, .int .i64 0, .slice none 0 0]), (gK, 28, #[.int .i64 kk]), (gL, 3, #[.int .i64 n]), (gR, 23, #[.int .i64 x0, .int .i64 y0, .int .i64 x1, .int .i64 y1]), (gB, 32, #[.slice (some ⟨gb, 0, none⟩) N cN])] [(.slice Av G.length dv, G), (.slice A0 D0.length d0, D0)]))
  case first =>
    have K' := Aside0.mk (K.out.drew)
    clear K
    have K := K'
    clear K'
    refine start_ (n := 13) (S := fun w' => w'.heap[g8]? = some (.cells #[.int .i64 a0, .int .i64 e0, .int .i64 c0, .int .i64 f0, .slice A0 D0.length d0, .int .i64 a1, .int .i64 e0, .int .i64 c1, .int .i64 f0, .slice A1 D1.length d1, .int .i64 a0, .int .i64 e1, .int .i64 c0, .int .i64 f1, .slice A2 D2.length d2, .int .i64 a1, .int .i64 e1, .int .i64 c1, .int .i64 f1, .slice A3 D3.length d3] 59 (0, 0)) ∧ w'.heap[gR]? = some (.cells #[.int .i64 x0, .int .i64 y0, .int .i64 x1, .int .i64 y1] 23 (0, 0)) ∧ w'.cell? ⟨gL, 0, none⟩ = some (.int .i64 n) ∧ w'.cell? ⟨gK, 0, none⟩ = some (.int .i64 kk)) (ds := [11]) #[false, false, false, false, false, false, false, false, false, false, false, false, false] (by kernel_rfl) rfl rfl ⟨K.out.get 0 rfl, K.out.get 5 rfl, K.out.cell 4 rfl 0 rfl, K.out.cell 3 rfl 0 rfl⟩ (fun hHeld0 => ?_)
    generalize hw2 : wc.drew = w2 at *
    clear hw2
    have hHeld := Aside0.mk hHeld0
    clear hHeld0
    refine take_ (i := 0) (N := some 31) (v := .agg #[.int .i64 a0, .int .i64 e0, .int .i64 c0, .int .i64 f0, .slice A0 D0.length d0, .int .i64 a1, .int .i64 e0, .int .i64 c1, .int .i64 f0, .slice A1 D1.length d1, .int .i64 a0, .int .i64 e1, .int .i64 c0, .int .i64 f1, .slice A2 D2.length d2, .int .i64 a1, .int .i64 e1, .int .i64 c1, .int .i64 f1, .slice A3 D3.length d3]) (a' := ?_) #[true, false, false, false, false, false, false, false, false, false, false, false, false] rfl rfl (by kernel_rfl) (fun _ _ _ h => h) (load_all_yields (by rfl) 59 (.tmp 8) rfl rfl (fun _ h => h.1) Try.underlying59 rfl rfl) hHeld.out ?_ ?_
    rotate_left
    · simp only [Act.put, List.setIfInBounds_toArray, List.set_cons_zero, List.set_cons_succ, i64_w, i32_w]
      rfl
    refine take_ (i := 1) (N := some 32) (v := .agg #[.int .i64 x0, .int .i64 y0, .int .i64 x1, .int .i64 y1]) (a' := ?_) #[true, true, false, false, false, false, false, false, false, false, false, false, false] rfl rfl (by kernel_rfl) (fun _ _ _ h => h) (load_all_yields (by rfl) 23 (.tmp 3) rfl rfl (fun _ h => h.2.1) Try.underlying23 rfl rfl) hHeld.out ?_ ?_
    rotate_left
    · simp only [Act.put, List.setIfInBounds_toArray, List.set_cons_zero, List.set_cons_succ, i64_w, i32_w]
      rfl
    refine take_ (i := 2) (N := some 33) (v := ?_) (a' := ?_) #[true, true, true, false, false, false, false, false, false, false, false, false, false] rfl rfl (by kernel_rfl) (fun _ _ _ h => h) (Or.inl ⟨by rfl, ?_⟩) hHeld.out ?_ ?_
    rotate_left
    · rintro w' ⟨s0, s1, s2, s3⟩
      go_simp
      with_reducible rfl
    rotate_left
    · simp only [Act.put, List.setIfInBounds_toArray, List.set_cons_zero, List.set_cons_succ, i64_w, i32_w]
      rfl
    refine pure_ (i := 3) (N := some 34) (v := ?_) (a' := ?_) #[true, true, true, true, false, false, false, false, false, false, false, false, false] rfl rfl (by kernel_rfl) (fun _ _ _ h => h) (Or.inl ⟨by rfl, ?_⟩) ?_ ?_
    rotate_left
    · intro w'
      go_simp
      with_reducible rfl
    rotate_left
    · simp only [Act.put, List.setIfInBounds_toArray, List.set_cons_zero, List.set_cons_succ, i64_w, i32_w]
      rfl
    refine take_ (i := 5) (N := some 36) (v := ?_) (a' := ?_) #[true, true, true, true, false, true, false, false, false, false, false, false, false] rfl rfl (by kernel_rfl) (fun _ _ _ h => h) (Or.inl ⟨by rfl, ?_⟩) hHeld.out ?_ ?_
    rotate_left
    · rintro w' ⟨s0, s1, s2, s3⟩
      go_simp
      with_reducible rfl
    rotate_left
    · simp only [Act.put, List.setIfInBounds_toArray, List.set_cons_zero, List.set_cons_succ, i64_w, i32_w]
      rfl
    refine two_ (i := 4) (j := 10) (Ni := some 35) (Nj := some 9) #[true, true, true, true, true, true, false, false, false, false, false, false, false] #[true, true, true, true, false, true, false, false, false, false, true, false, false] rfl rfl rfl rfl (by kernel_rfl) (by decide) (by decide) (fun KC hK => ?_) (fun KC hK => ?_)
    · skip
      refine goes_ Try.func33 (by kernel_rfl) rfl #[.agg #[.int .i64 x0, .int .i64 y0, .int .i64 x1, .int .i64 y1], .int .i64 n, .int .i64 z] (by rfl) rfl rfl (by simp only [List.map_toArray, List.map_cons, List.map_nil]; rfl) ?_
      refine (pyramid_Resolution.calls kr x0 y0 x1 y1 n z X0 Y0 X1 Y1 _ HRS.out).mono ?_
      rintro _ w33 ⟨rfl, b⟩
      refine ⟨_, rfl, ?_⟩
      have K' := Aside0.mk (K.out.call (K.out.size HN.out) b)
      clear K
      have K := K'
      clear K'
      clear b hHeld
      refine hK.out _ _ ⟨K.out.get 0 rfl, K.out.get 5 rfl, K.out.cell 4 rfl 0 rfl, K.out.cell 3 rfl 0 rfl⟩ (fun hHeld0 => ?_)
      have hHeld := Aside0.mk hHeld0
      clear hHeld0
      clear hK KC
      refine norm_ (a' := ?_) ?_ ?_
      rotate_left
      · show Act.put _ (some 35) _ = _
        simp only [Act.put, List.setIfInBounds_toArray, List.set_cons_zero, List.set_cons_succ, i64_w, i32_w]
        rfl
      refine two_ (i := 6) (j := 10) (Ni := some 37) (Nj := some 9) #[true, true, true, true, true, true, true, false, false, false, false, false, false] #[true, true, true, true, true, true, false, false, false, false, true, false, false] rfl rfl rfl rfl (by kernel_rfl) (by decide) (by decide) (fun KC hK => ?_) (fun KC hK => ?_)
      · skip
        refine goes_ Try.func41 (by kernel_rfl) rfl #[.agg #[.int .i64 a0, .int .i64 e0, .int .i64 c0, .int .i64 f0, .slice A0 D0.length d0, .int .i64 a1, .int .i64 e0, .int .i64 c1, .int .i64 f0, .slice A1 D1.length d1, .int .i64 a0, .int .i64 e1, .int .i64 c0, .int .i64 f1, .slice A2 D2.length d2, .int .i64 a1, .int .i64 e1, .int .i64 c1, .int .i64 f1, .slice A3 D3.length d3], .agg #[.int .i64 X0, .int .i64 Y0, .int .i64 X1, .int .i64 Y1], .int .i64 kk] (by rfl) rfl rfl (by simp only [List.map_toArray, List.map_cons, List.map_nil]; rfl) ?_
        refine (dwt_Merge.to kk X0 Y0 X1 Y1 A0 d0 A1 d1 A2 d2 A3 d3 D0 D1 D2 D3 G a0 a1 c0 c1 e0 e1 f0 f1 _ (K.out.readAt 0 rfl).2.2 (K.out.readAt 0 rfl).2.1 (Kd.C_below HC1.out.2 (HN.out ▸ K.out.below)) HC1.out.1 (Kd.C_below HC2.out.2 (HN.out ▸ K.out.below)) HC2.out.1 (Kd.C_below HC3.out.2 (HN.out ▸ K.out.below)) HC3.out.1 HMT.out).mono ?_
        rintro _ w41 ⟨v, rfl, hH⟩
        obtain ⟨Av, dv, rfl⟩ := Kd.R_slice (hH.rowAt 0 rfl)
        refine ⟨_, rfl, ?_⟩
        have K' := Aside0.mk (K.out.join (K.out.size HN.out) hH)
        clear K
        have K := K'
        clear K'
        clear hH hHeld
        refine hK.out _ _ ⟨K.out.get 0 rfl, K.out.get 5 rfl, K.out.cell 4 rfl 0 rfl, K.out.cell 3 rfl 0 rfl⟩ (fun hHeld0 => ?_)
        have hHeld := Aside0.mk hHeld0
        clear hHeld0
        clear hK KC
        refine norm_ (a' := ?_) ?_ ?_
        rotate_left
        · show Act.put _ (some 37) _ = _
          simp only [Act.put, List.setIfInBounds_toArray, List.set_cons_zero, List.set_cons_succ, i64_w, i32_w]
          rfl
        refine pure_ (i := 7) (N := some 30) (v := ?_) (a' := ?_) #[true, true, true, true, true, true, true, true, false, false, false, false, false] rfl rfl (by kernel_rfl) (fun _ _ _ h => h) (Or.inl ⟨by rfl, ?_⟩) ?_ ?_
        rotate_left
        · intro w'
          go_simp
          with_reducible rfl
        rotate_left
        · simp only [Act.put, List.setIfInBounds_toArray, List.set_cons_zero, List.set_cons_succ, i64_w, i32_w]
          rfl
        refine pure_ (i := 8) (N := some 38) (v := ?_) (a' := ?_) #[true, true, true, true, true, true, true, true, true, false, false, false, false] rfl rfl (by kernel_rfl) (fun _ _ _ h => h) (Or.inl ⟨by rfl, ?_⟩) ?_ ?_
        rotate_left
        · intro w'
          go_simp
          with_reducible rfl
        rotate_left
        · simp only [Act.put, List.setIfInBounds_toArray, List.set_cons_zero, List.set_cons_succ, i64_w, i32_w]
          rfl
        refine pure_ (i := 9) (N := some 39) (v := ?_) (a' := ?_) #[true, true, true, true, true, true, true, true, true, true, false, false, false] rfl rfl (by kernel_rfl) (fun _ _ _ h => h) (Or.inl ⟨by rfl, ?_⟩) ?_ ?_
        rotate_left
        · intro w'
          go_simp
          with_reducible rfl
        rotate_left
        · simp only [Act.put, List.setIfInBounds_toArray, List.set_cons_zero, List.set_cons_succ, i64_w, i32_w]
          rfl
        refine one_ (i := 10) (N := some 9) #[true, true, true, true, true, true, true, true, true, true, true, false, false] rfl rfl (by kernel_rfl) (by decide) (fun KC hK => ?_)
        refine box_step ?hg (N := 9) ?hd (cs := #[.int .i64 0, .int .i64 0, .int .i64 0, .int .i64 0, .slice none 0 0]) (t := 26) ?hr ?_
        case hd => rfl
        case hg => rfl
        case hr => first | (go_simp; done) | (go_simp; rfl)
        intro g9 hg w9 hbox hb
        have K' := Aside0.mk (K.out.box (K.out.size HN.out) hg hbox hb trivial)
        clear K
        have K := K'
        clear K'
        clear hg hbox hb hHeld
        refine hK.out _ _ ⟨K.out.get 1 rfl, K.out.get 6 rfl, K.out.cell 5 rfl 0 rfl, K.out.cell 4 rfl 0 rfl⟩ (fun hHeld0 => ?_)
        have hHeld := Aside0.mk hHeld0
        clear hHeld0
        clear hK KC
        refine norm_ (a' := ?_) ?_ ?_
        rotate_left
        · show Act.put _ (some 9) _ = _
          simp only [Act.put, List.setIfInBounds_toArray, List.set_cons_zero, List.set_cons_succ, i64_w, i32_w]
          rfl
        refine last_ (i := 11) (N := none) #[true, true, true, true, true, true, true, true, true, true, true, true, false] rfl rfl (by kernel_rfl) (by decide) (fun KC hK => ?_)
        refine store_step (cs := #[.int .i64 X0, .int .i64 Y0, .int .i64 X1, .int .i64 Y1, .slice Av G.length dv]) (by rfl) rfl 26 (.tmp 9) (.tmp 38) rfl rfl (by kernel_rfl) (K.out.get 0 rfl) rfl rfl (by first | (kernel_rfl) | (simp [Value.oneCell'])) ?_
        intro WS hs
        refine hK.out _ _ ?_
        have K' := Aside0.mk (K.out.stored 0 rfl hs)
        clear K
        have K := K'
        clear K'
        clear hK KC hs hHeld
        refine pure_ (i := 12) (N := some 10) (v := ?_) (a' := ?_) #[true, true, true, true, true, true, true, true, true, true, true, true, true] rfl rfl (by kernel_rfl) (fun _ _ _ h => h) (Or.inl ⟨by rfl, ?_⟩) ?_ ?_
        rotate_left
        · intro w'
          go_simp
          with_reducible rfl
        rotate_left
        · simp only [Act.put, List.setIfInBounds_toArray, List.set_cons_zero, List.set_cons_succ, i64_w, i32_w]
          rfl
        refine done_ (by kernel_rfl) ?_
        go_wp2
        go_meet
        case rel => exact ⟨_, _, _, rfl, rfl, ⟨K.out⟩⟩
      · skip
        refine box_step ?hg (N := 9) ?hd (cs := #[.int .i64 0, .int .i64 0, .int .i64 0, .int .i64 0, .slice none 0 0]) (t := 26) ?hr ?_
        case hd => rfl
        case hg => rfl
        case hr => first | (go_simp; done) | (go_simp; rfl)
        intro g9 hg w9 hbox hb
        have K' := Aside0.mk (K.out.box (K.out.size HN.out) hg hbox hb trivial)
        clear K
        have K := K'
        clear K'
        clear hg hbox hb hHeld
        refine hK.out _ _ ⟨K.out.get 1 rfl, K.out.get 6 rfl, K.out.cell 5 rfl 0 rfl, K.out.cell 4 rfl 0 rfl⟩ (fun hHeld0 => ?_)
        have hHeld := Aside0.mk hHeld0
        clear hHeld0
        clear hK KC
        refine norm_ (a' := ?_) ?_ ?_
        rotate_left
        · show Act.put _ (some 9) _ = _
          simp only [Act.put, List.setIfInBounds_toArray, List.set_cons_zero, List.set_cons_succ, i64_w, i32_w]
          rfl
        refine one_ (i := 6) (N := some 37) #[true, true, true, true, true, true, true, false, false, false, true, false, false] rfl rfl (by kernel_rfl) (by decide) (fun KC hK => ?_)
        refine goes_ Try.func41 (by kernel_rfl) rfl #[.agg #[.int .i64 a0, .int .i64 e0, .int .i64 c0, .int .i64 f0, .slice A0 D0.length d0, .int .i64 a1, .int .i64 e0, .int .i64 c1, .int .i64 f0, .slice A1 D1.length d1, .int .i64 a0, .int .i64 e1, .int .i64 c0, .int .i64 f1, .slice A2 D2.length d2, .int .i64 a1, .int .i64 e1, .int .i64 c1, .int .i64 f1, .slice A3 D3.length d3], .agg #[.int .i64 X0, .int .i64 Y0, .int .i64 X1, .int .i64 Y1], .int .i64 kk] (by rfl) rfl rfl (by simp only [List.map_toArray, List.map_cons, List.map_nil]; rfl) ?_
        refine (dwt_Merge.to kk X0 Y0 X1 Y1 A0 d0 A1 d1 A2 d2 A3 d3 D0 D1 D2 D3 G a0 a1 c0 c1 e0 e1 f0 f1 _ (K.out.readAt 0 rfl).2.2 (K.out.readAt 0 rfl).2.1 (Kd.C_below HC1.out.2 (HN.out ▸ K.out.below)) HC1.out.1 (Kd.C_below HC2.out.2 (HN.out ▸ K.out.below)) HC2.out.1 (Kd.C_below HC3.out.2 (HN.out ▸ K.out.below)) HC3.out.1 HMT.out).mono ?_
        rintro _ w41 ⟨v, rfl, hH⟩
        obtain ⟨Av, dv, rfl⟩ := Kd.R_slice (hH.rowAt 0 rfl)
        refine ⟨_, rfl, ?_⟩
        have K' := Aside0.mk (K.out.join (K.out.size HN.out) hH)
        clear K
        have K := K'
        clear K'
        clear hH hHeld
        refine hK.out _ _ ⟨K.out.get 1 rfl, K.out.get 6 rfl, K.out.cell 5 rfl 0 rfl, K.out.cell 4 rfl 0 rfl⟩ (fun hHeld0 => ?_)
        have hHeld := Aside0.mk hHeld0
        clear hHeld0
        clear hK KC
        refine norm_ (a' := ?_) ?_ ?_
        rotate_left
        · show Act.put _ (some 37) _ = _
          simp only [Act.put, List.setIfInBounds_toArray, List.set_cons_zero, List.set_cons_succ, i64_w, i32_w]
          rfl
        refine pure_ (i := 7) (N := some 30) (v := ?_) (a' := ?_) #[true, true, true, true, true, true, true, true, false, false, true, false, false] rfl rfl (by kernel_rfl) (fun _ _ _ h => h) (Or.inl ⟨by rfl, ?_⟩) ?_ ?_
        rotate_left
        · intro w'
          go_simp
          with_reducible rfl
        rotate_left
        · simp only [Act.put, List.setIfInBounds_toArray, List.set_cons_zero, List.set_cons_succ, i64_w, i32_w]
          rfl
        refine pure_ (i := 8) (N := some 38) (v := ?_) (a' := ?_) #[true, true, true, true, true, true, true, true, true, false, true, false, false] rfl rfl (by kernel_rfl) (fun _ _ _ h => h) (Or.inl ⟨by rfl, ?_⟩) ?_ ?_
        rotate_left
        · intro w'
          go_simp
          with_reducible rfl
        rotate_left
        · simp only [Act.put, List.setIfInBounds_toArray, List.set_cons_zero, List.set_cons_succ, i64_w, i32_w]
          rfl
        refine pure_ (i := 9) (N := some 39) (v := ?_) (a' := ?_) #[true, true, true, true, true, true, true, true, true, true, true, false, false] rfl rfl (by kernel_rfl) (fun _ _ _ h => h) (Or.inl ⟨by rfl, ?_⟩) ?_ ?_
        rotate_left
        · intro w'
          go_simp
          with_reducible rfl
        rotate_left
        · simp only [Act.put, List.setIfInBounds_toArray, List.set_cons_zero, List.set_cons_succ, i64_w, i32_w]
          rfl
        refine last_ (i := 11) (N := none) #[true, true, true, true, true, true, true, true, true, true, true, true, false] rfl rfl (by kernel_rfl) (by decide) (fun KC hK => ?_)
        refine store_step (cs := #[.int .i64 X0, .int .i64 Y0, .int .i64 X1, .int .i64 Y1, .slice Av G.length dv]) (by rfl) rfl 26 (.tmp 9) (.tmp 38) rfl rfl (by kernel_rfl) (K.out.get 0 rfl) rfl rfl (by first | (kernel_rfl) | (simp [Value.oneCell'])) ?_
        intro WS hs
        refine hK.out _ _ ?_
        have K' := Aside0.mk (K.out.stored 0 rfl hs)
        clear K
        have K := K'
        clear K'
        clear hK KC hs hHeld
        refine pure_ (i := 12) (N := some 10) (v := ?_) (a' := ?_) #[true, true, true, true, true, true, true, true, true, true, true, true, true] rfl rfl (by kernel_rfl) (fun _ _ _ h => h) (Or.inl ⟨by rfl, ?_⟩) ?_ ?_
        rotate_left
        · intro w'
          go_simp
          with_reducible rfl
        rotate_left
        · simp only [Act.put, List.setIfInBounds_toArray, List.set_cons_zero, List.set_cons_succ, i64_w, i32_w]
          rfl
        refine done_ (by kernel_rfl) ?_
        go_wp2
        go_meet
        case rel => exact ⟨_, _, _, rfl, rfl, ⟨K.out⟩⟩
    · skip
      refine box_step ?hg (N := 9) ?hd (cs := #[.int .i64 0, .int .i64 0, .int .i64 0, .int .i64 0, .slice none 0 0]) (t := 26) ?hr ?_
      case hd => rfl
      case hg => rfl
      case hr => first | (go_simp; done) | (go_simp; rfl)
      intro g9 hg w9 hbox hb
      have K' := Aside0.mk (K.out.box (K.out.size HN.out) hg hbox hb trivial)
      clear K
      have K := K'
      clear K'
      clear hg hbox hb hHeld
      refine hK.out _ _ ⟨K.out.get 1 rfl, K.out.get 6 rfl, K.out.cell 5 rfl 0 rfl, K.out.cell 4 rfl 0 rfl⟩ (fun hHeld0 => ?_)
      have hHeld := Aside0.mk hHeld0
      clear hHeld0
      clear hK KC
      refine norm_ (a' := ?_) ?_ ?_
      rotate_left
      · show Act.put _ (some 9) _ = _
        simp only [Act.put, List.setIfInBounds_toArray, List.set_cons_zero, List.set_cons_succ, i64_w, i32_w]
        rfl
      refine one_ (i := 4) (N := some 35) #[true, true, true, true, true, true, false, false, false, false, true, false, false] rfl rfl (by kernel_rfl) (by decide) (fun KC hK => ?_)
      refine goes_ Try.func33 (by kernel_rfl) rfl #[.agg #[.int .i64 x0, .int .i64 y0, .int .i64 x1, .int .i64 y1], .int .i64 n, .int .i64 z] (by rfl) rfl rfl (by simp only [List.map_toArray, List.map_cons, List.map_nil]; rfl) ?_
      refine (pyramid_Resolution.calls kr x0 y0 x1 y1 n z X0 Y0 X1 Y1 _ HRS.out).mono ?_
      rintro _ w33 ⟨rfl, b⟩
      refine ⟨_, rfl, ?_⟩
      have K' := Aside0.mk (K.out.call (K.out.size HN.out) b)
      clear K
      have K := K'
      clear K'
      clear b hHeld
      refine hK.out _ _ ⟨K.out.get 1 rfl, K.out.get 6 rfl, K.out.cell 5 rfl 0 rfl, K.out.cell 4 rfl 0 rfl⟩ (fun hHeld0 => ?_)
      have hHeld := Aside0.mk hHeld0
      clear hHeld0
      clear hK KC
      refine norm_ (a' := ?_) ?_ ?_
      rotate_left
      · show Act.put _ (some 35) _ = _
        simp only [Act.put, List.setIfInBounds_toArray, List.set_cons_zero, List.set_cons_succ, i64_w, i32_w]
        rfl
      refine one_ (i := 6) (N := some 37) #[true, true, true, true, true, true, true, false, false, false, true, false, false] rfl rfl (by kernel_rfl) (by decide) (fun KC hK => ?_)
      refine goes_ Try.func41 (by kernel_rfl) rfl #[.agg #[.int .i64 a0, .int .i64 e0, .int .i64 c0, .int .i64 f0, .slice A0 D0.length d0, .int .i64 a1, .int .i64 e0, .int .i64 c1, .int .i64 f0, .slice A1 D1.length d1, .int .i64 a0, .int .i64 e1, .int .i64 c0, .int .i64 f1, .slice A2 D2.length d2, .int .i64 a1, .int .i64 e1, .int .i64 c1, .int .i64 f1, .slice A3 D3.length d3], .agg #[.int .i64 X0, .int .i64 Y0, .int .i64 X1, .int .i64 Y1], .int .i64 kk] (by rfl) rfl rfl (by simp only [List.map_toArray, List.map_cons, List.map_nil]; rfl) ?_
      refine (dwt_Merge.to kk X0 Y0 X1 Y1 A0 d0 A1 d1 A2 d2 A3 d3 D0 D1 D2 D3 G a0 a1 c0 c1 e0 e1 f0 f1 _ (K.out.readAt 0 rfl).2.2 (K.out.readAt 0 rfl).2.1 (Kd.C_below HC1.out.2 (HN.out ▸ K.out.below)) HC1.out.1 (Kd.C_below HC2.out.2 (HN.out ▸ K.out.below)) HC2.out.1 (Kd.C_below HC3.out.2 (HN.out ▸ K.out.below)) HC3.out.1 HMT.out).mono ?_
      rintro _ w41 ⟨v, rfl, hH⟩
      obtain ⟨Av, dv, rfl⟩ := Kd.R_slice (hH.rowAt 0 rfl)
      refine ⟨_, rfl, ?_⟩
      have K' := Aside0.mk (K.out.join (K.out.size HN.out) hH)
      clear K
      have K := K'
      clear K'
      clear hH hHeld
      refine hK.out _ _ ⟨K.out.get 1 rfl, K.out.get 6 rfl, K.out.cell 5 rfl 0 rfl, K.out.cell 4 rfl 0 rfl⟩ (fun hHeld0 => ?_)
      have hHeld := Aside0.mk hHeld0
      clear hHeld0
      clear hK KC
      refine norm_ (a' := ?_) ?_ ?_
      rotate_left
      · show Act.put _ (some 37) _ = _
        simp only [Act.put, List.setIfInBounds_toArray, List.set_cons_zero, List.set_cons_succ, i64_w, i32_w]
        rfl
      refine pure_ (i := 7) (N := some 30) (v := ?_) (a' := ?_) #[true, true, true, true, true, true, true, true, false, false, true, false, false] rfl rfl (by kernel_rfl) (fun _ _ _ h => h) (Or.inl ⟨by rfl, ?_⟩) ?_ ?_
      rotate_left
      · intro w'
        go_simp
        with_reducible rfl
      rotate_left
      · simp only [Act.put, List.setIfInBounds_toArray, List.set_cons_zero, List.set_cons_succ, i64_w, i32_w]
        rfl
      refine pure_ (i := 8) (N := some 38) (v := ?_) (a' := ?_) #[true, true, true, true, true, true, true, true, true, false, true, false, false] rfl rfl (by kernel_rfl) (fun _ _ _ h => h) (Or.inl ⟨by rfl, ?_⟩) ?_ ?_
      rotate_left
      · intro w'
        go_simp
        with_reducible rfl
      rotate_left
      · simp only [Act.put, List.setIfInBounds_toArray, List.set_cons_zero, List.set_cons_succ, i64_w, i32_w]
        rfl
      refine pure_ (i := 9) (N := some 39) (v := ?_) (a' := ?_) #[true, true, true, true, true, true, true, true, true, true, true, false, false] rfl rfl (by kernel_rfl) (fun _ _ _ h => h) (Or.inl ⟨by rfl, ?_⟩) ?_ ?_
      rotate_left
      · intro w'
        go_simp
        with_reducible rfl
      rotate_left
      · simp only [Act.put, List.setIfInBounds_toArray, List.set_cons_zero, List.set_cons_succ, i64_w, i32_w]
        rfl
      refine last_ (i := 11) (N := none) #[true, true, true, true, true, true, true, true, true, true, true, true, false] rfl rfl (by kernel_rfl) (by decide) (fun KC hK => ?_)
      refine store_step (cs := #[.int .i64 X0, .int .i64 Y0, .int .i64 X1, .int .i64 Y1, .slice Av G.length dv]) (by rfl) rfl 26 (.tmp 9) (.tmp 38) rfl rfl (by kernel_rfl) (K.out.get 0 rfl) rfl rfl (by first | (kernel_rfl) | (simp [Value.oneCell'])) ?_
      intro WS hs
      refine hK.out _ _ ?_
      have K' := Aside0.mk (K.out.stored 0 rfl hs)
      clear K
      have K := K'
      clear K'
      clear hK KC hs hHeld
      refine pure_ (i := 12) (N := some 10) (v := ?_) (a' := ?_) #[true, true, true, true, true, true, true, true, true, true, true, true, true] rfl rfl (by kernel_rfl) (fun _ _ _ h => h) (Or.inl ⟨by rfl, ?_⟩) ?_ ?_
      rotate_left
      · intro w'
        go_simp
        with_reducible rfl
      rotate_left
      · simp only [Act.put, List.setIfInBounds_toArray, List.set_cons_zero, List.set_cons_succ, i64_w, i32_w]
        rfl
      refine done_ (by kernel_rfl) ?_
      go_wp2
      go_meet
      case rel => exact ⟨_, _, _, rfl, rfl, ⟨K.out⟩⟩
  case rest =>
  obtain ⟨g9, Av, dv, rfl, rfl, K⟩ := hcut
  go_wp2_with (first
    | ((with_reducible refine gate_dst (N := 40) rfl ?_); refine load_ev rfl 26 (.tmp 9) rfl rfl (K.out.get 0 rfl) Try.underlying26 rfl ?_)
    | ((with_reducible refine gate_store (t := 26) (p := 1) (v := .tmp 40) rfl ?_); refine store_ev rfl rfl 26 (.tmp 1) (.tmp 40) rfl rfl rfl (K.out.get 2 rfl) rfl rfl (by first | (kernel_rfl) | (simp [Value.oneCell'])) ?_; intro W1s hs; have K' := Aside0.mk (K.out.stored 2 rfl hs); clear K; have K := K'; clear K'; clear hs))
  go_ret
  exact ⟨rfl, Av, dv, K.out.tl.tl.erase 1⟩
end Go.Proofs.Ytcnpekpgghppnaa.Q

/- pyramid.Synthesize. Printed by wip/tools of this session. -/
namespace Go.Proofs.Ytcnpekpgghppnaa.Q
open Go.RowKit Go.Proofs.YtcnpekpgghppnaaW.PrintWords Go.Proofs.YtcnpekpgghppnaaW.PrintLast Go.Proofs.YtcnpekpgghppnaaW.PrintMore
set_option linter.unusedVariables false
set_option linter.unusedSimpArgs false

attribute [local go_sem high] eqA23_same
/-- One step of the synthesis: the q-th plane becomes the next one. -/
def SynStep (kk x0 y0 x1 y1 n : Int) (bs : List Pl) (q : Nat) (p p' : Pl) : Prop :=
  ∃ (kr : Nat) (a1 c1 e1 f1 : Int) (D1 D2 D3 : List Int), bs[3 * q + 1]? = some ⟨a1, p.y0, c1, p.y1, D1⟩ ∧ bs[3 * q + 2]? = some ⟨p.x0, e1, p.x1, f1, D2⟩ ∧ bs[3 * q + 3]? = some ⟨a1, e1, c1, f1, D3⟩ ∧ pyramid_Resolution.f kr x0 y0 x1 y1 n ((q + 1 : Nat) : Int) = some (p'.x0, p'.y0, p'.x1, p'.y1) ∧ MergeTo kk p'.x0 p'.y0 p'.x1 p'.y1 p.x0 a1 p.x1 c1 p.y0 e1 p.y1 f1 p.D D1 D2 D3 p'.D
/-- A subband that is asked for is as the synthesis wants it. -/
def BandOk (x0 y0 x1 y1 n : Int) (j : Nat) (p : Pl) : Prop := PV p.x0 p.y0 p.x1 p.y1 p.D ∧ BandTo x0 y0 x1 y1 n (j : Int) (p.x0, p.y0, p.x1, p.y1) ∧ ∃ ke, pyramid_exceeds.f ke p.D 4294967296 = some false
set_option maxHeartbeats 8000000 in
set_option maxRecDepth 100000 in
theorem pyramid_Synthesize.good (km kr n res : Nat) (kk mg ar x0 y0 x1 y1 R0 R1 R2 R3 : Int) (ps : List (Value × Pl)) (u : Nat → Pl) (gb N cN : Nat) (w : World)
    (hbd : Bds w gb ps) (hnp : N = ps.length ∧ N = 3 * n + 1 ∧ N ≤ cN) (hrv : rect_Valid.f x0 y0 x1 y1 = some true) (hnn : res ≤ n ∧ n ≤ 5) (hrs : pyramid_Resolution.f kr x0 y0 x1 y1 (n : Int) (res : Int) = some (R0, R1, R2, R3)) (har : rect_Area.f R0 R1 R2 R3 = some ar) (hal : ar ≤ 1048576) (hm : lift_Margin.f km kk = some mg) (hmg : mg ≠ 0) (hall : ∀ (j : Nat) (p : Value × Pl), j ≤ 3 * res → ps[j]? = some p → BandOk x0 y0 x1 y1 (n : Int) j p.2) (hu0 : (ps.map (·.2))[0]? = some (u 0)) (hus : ∀ q, q < res → SynStep kk x0 y0 x1 y1 (n : Int) (ps.map (·.2)) q (u q) (u (q + 1))) :
    Calls Try.prog 16 #[.slice (some ⟨gb, 0, none⟩) N cN, .agg #[.int .i64 x0, .int .i64 y0, .int .i64 x1, .int .i64 y1], .int .i64 (n : Int), .int .i64 (res : Int), .int .i64 kk] w fun e w' => ∃ v : Value, e = .returned (.tuple #[.agg #[.int .i64 (u res).x0, .int .i64 (u res).y0, .int .i64 (u res).x1, .int .i64 (u res).y1, v], .int .i64 0]) ∧ Hold w.heap.size w w' [] [(v, (u res).D)] := by
  have HBD := Aside0.mk hbd
  have HNP := Aside0.mk hnp
  have HRV := Aside0.mk hrv
  have HNN := Aside0.mk hnn
  have HRS := Aside0.mk hrs
  have HAR := Aside0.mk har
  have HAL := Aside0.mk hal
  have HM := Aside0.mk hm
  have HMG := Aside0.mk hmg
  have HALL := Aside0.mk hall
  have HU0 := Aside0.mk hu0
  have HUS := Aside0.mk hus
  have HVL := Aside0.mk (show pyramid_validLevels.f (n : Int) = some true by unfold pyramid_validLevels.f; rw [if_pos (by omega), decide_eq_true (by omega)])
  have HCT := Aside0.mk (show pyramid_Count.f (n : Int) = some (N : Int) by unfold pyramid_Count.f; rw [HVL.out]; show some (wrap64 (wrap64 (3 * (n : Int)) + 1)) = some (N : Int); rw [show wrap64 (wrap64 (3 * (n : Int)) + 1) = (N : Int) by unfold wrap64; omega])
  have b0 : decide (mg = 0) = false := decide_eq_false hmg
  have b1 : (mg == 0) = false := beq_eq_false_iff_ne.mpr hmg
  have b2 : decide ((res : Int) < 0) = false := decide_eq_false (by omega)
  have b3 : decide ((n : Int) < (res : Int)) = false := decide_eq_false (by omega)
  have b3' : decide (n < res) = false := decide_eq_false (by omega)
  have b4 : decide (1048576 < ar) = false := decide_eq_false (by omega)
  have hw3 : wrap64 (3 * (res : Int)) = ((3 * res : Nat) : Int) := by unfold wrap64; omega
  obtain ⟨m, hm3⟩ : ∃ m : Nat, m = 3 * res := ⟨_, rfl⟩
  rw [← hm3] at hw3
  have HM3 := Aside0.mk (And.intro hm3 (show m < N by omega))
  clear hm3
  clear hbd hnp hrv hnn hrs har hal hm hmg hall hu0 hus
  have K00 := Aside0.mk (Hold.nil w)
  go_enter Try.func16, Try.ntmps16
  go_upto_region 5 with (first
    | ((with_reducible refine gate_dst (N := 5) rfl ?_); refine box_event ?hg (N := 5) ?hd (cs := #[.slice (some ⟨gb, 0, none⟩) N cN]) (t := 32) ?hr ?_; (case hd => rfl); (case hg => rfl); (case hr => first | (go_simp; done) | (go_simp; rfl)); intro g5 hg W5 hbox hb; have K1 := Aside0.mk (K00.out.box (Nat.le_refl _) hg hbox hb trivial); clear hg hbox hb K00)
    | ((with_reducible refine gate_dst (N := 6) rfl ?_); refine box_event ?hg (N := 6) ?hd (cs := #[.int .i64 x0, .int .i64 y0, .int .i64 x1, .int .i64 y1]) (t := 23) ?hr ?_; (case hd => rfl); (case hg => rfl); (case hr => first | (go_simp; done) | (go_simp; rfl)); intro g6 hg W6 hbox hb; have K2 := Aside0.mk (K1.out.box (below_size K1.out.below) hg hbox hb trivial); clear hg hbox hb K1)
    | ((with_reducible refine gate_dst (N := 7) rfl ?_); refine box_event ?hg (N := 7) ?hd (cs := #[.int .i64 (n : Int)]) (t := 3) ?hr ?_; (case hd => rfl); (case hg => rfl); (case hr => first | (go_simp; done) | (go_simp; rfl)); intro g7 hg W7 hbox hb; have K3 := Aside0.mk (K2.out.box (below_size K2.out.below) hg hbox hb trivial); clear hg hbox hb K2)
    | ((with_reducible refine gate_dst (N := 9) rfl ?_); refine box_event ?hg (N := 9) ?hd (cs := #[.int .i64 kk]) (t := 28) ?hr ?_; (case hd => rfl); (case hg => rfl); (case hr => first | (go_simp; done) | (go_simp; rfl)); intro g9 hg W9 hbox hb; have K4 := Aside0.mk (K3.out.box (below_size K3.out.below) hg hbox hb trivial); clear hg hbox hb K3)
    | ((with_reducible refine gate_dst (N := 10) rfl ?_); refine box_event ?hg (N := 10) ?hd (cs := #[.int .i64 0, .int .i64 0, .int .i64 0, .int .i64 0, .slice none 0 0]) (t := 26) ?hr ?_; (case hd => rfl); (case hg => rfl); (case hr => first | (go_simp; done) | (go_simp; rfl)); intro g10 hg W10 hbox hb; have K := Aside0.mk (K4.out.box (below_size K4.out.below) hg hbox hb trivial); clear hg hbox hb K4)
    | ((with_reducible refine gate_dst (N := 18) rfl ?_); refine load_ev rfl 23 (.tmp 6) rfl rfl (K.out.get 3 rfl) Try.underlying23 rfl ?_)
    | (go_at_call 31; (with_reducible refine (rect_Valid.calls x0 y0 x1 y1 true _ HRV.out).mono ?_); rintro _ w31 ⟨rfl, b⟩; have K' := Aside0.mk (K.out.call (below_size K.out.below) b); clear K; have K := K'; clear K'; clear b; have p7 : w31.cell? ⟨g7, 0, none⟩ = some (.int .i64 (n : Int)) := K.out.cell 2 rfl 0 rfl)
    | ((try (refine gate_guard (by rfl) ?_; dsimp only)); go_at_call 27; (with_reducible refine (pyramid_validLevels.calls (n : Int) true _ HVL.out).mono ?_); rintro _ w27 ⟨rfl, b⟩; have K' := Aside0.mk (K.out.call (below_size K.out.below) b.below); clear K; have K := K'; clear K'; clear b p7; have p7 : w27.cell? ⟨g7, 0, none⟩ = some (.int .i64 (n : Int)) := K.out.cell 2 rfl 0 rfl)
    | ((with_reducible refine gate_dst (N := 36) rfl ?_); (try (refine gate_guard (by rfl) ?_; dsimp only)); refine load_ev rfl 23 (.tmp 6) rfl rfl (K.out.get 3 rfl) Try.underlying23 rfl ?_)
    | ((try (refine gate_guard (by rfl) ?_; dsimp only)); go_at_call 33; (with_reducible refine (pyramid_Resolution.calls kr x0 y0 x1 y1 (n : Int) (res : Int) R0 R1 R2 R3 _ HRS.out).mono ?_); rintro _ w33 ⟨rfl, b⟩; have K' := Aside0.mk (K.out.call (below_size K.out.below) b); clear K; have K := K'; clear K'; clear b p7)
    | ((try (refine gate_guard (by rfl) ?_; dsimp only)); go_at_call 36; (with_reducible refine (rect_Area.calls R0 R1 R2 R3 ar _ HAR.out).mono ?_); rintro _ w36 ⟨rfl, b⟩; have K' := Aside0.mk (K.out.call (below_size K.out.below) b); clear K; have K := K'; clear K'; clear b; have p9 : w36.cell? ⟨g9, 0, none⟩ = some (.int .i64 kk) := K.out.cell 1 rfl 0 rfl)
    | (go_at_call 26; (with_reducible refine (lift_Margin.calls km kk mg _ HM.out).mono ?_); rintro _ w26 ⟨rfl, b⟩; have K' := Aside0.mk (K.out.call (below_size K.out.below) b.below); clear K; have K := K'; clear K'; clear b p9))
  clear b0 b1 b2 b3 b3' b4 HRV HVL HRS HAR HAL HM HMG
  go_cut [52] (fun v52 wc => v52 = .bool false ∧ Aside0 (Hold w.heap.size w wc [(g10, 26, #[.int .i64 0, .int .i64 0, .int .i64 0, .int .i64 0, .slice none 0 0]), (g9, 28, #[.int .i64 kk]), (g7, 3, #[.int .i64 (n : Int)]), (g6, 23, #[.int .i64 x0, .int .i64 y0, .int .i64 x1, .int .i64 y1]), (g5, 32, #[.slice (some ⟨gb, 0, none⟩) N cN])] []))
  case first =>
    have K' := Aside0.mk (K.out.drew)
    clear K
    have K := K'
    clear K'
    have b5 : decide ((N : Int) = (N : Int)) = true := decide_eq_true rfl
    refine start_ (n := 5) (S := fun w' => w'.cell? ⟨g5, 0, none⟩ = some (.slice (some ⟨gb, 0, none⟩) N cN) ∧ w'.cell? ⟨g7, 0, none⟩ = some (.int .i64 (n : Int))) (ds := []) #[false, false, false, false, false] (by kernel_rfl) rfl rfl ⟨K.out.cell 4 rfl 0 rfl, K.out.cell 2 rfl 0 rfl⟩ (fun hHeld0 => ?_)
    generalize hw2 : w26.drew = w2 at *
    clear hw2
    have hHeld := Aside0.mk hHeld0
    clear hHeld0
    refine take_ (i := 0) (N := some 48) (v := ?_) (a' := ?_) #[true, false, false, false, false] rfl rfl (by kernel_rfl) (fun _ _ _ h => h) (Or.inl ⟨by rfl, ?_⟩) hHeld.out ?_ ?_
    rotate_left
    · rintro w' ⟨s0, s1⟩
      go_simp
      with_reducible rfl
    rotate_left
    · simp only [Act.put, List.setIfInBounds_toArray, List.set_cons_zero, List.set_cons_succ, i64_w, i32_w]
      rfl
    refine pure_ (i := 1) (N := some 49) (v := ?_) (a' := ?_) #[true, true, false, false, false] rfl rfl (by kernel_rfl) (fun _ _ _ h => h) (Or.inl ⟨by rfl, ?_⟩) ?_ ?_
    rotate_left
    · intro w'
      go_simp
      with_reducible rfl
    rotate_left
    · simp only [Act.put, List.setIfInBounds_toArray, List.set_cons_zero, List.set_cons_succ, i64_w, i32_w]
      rfl
    refine take_ (i := 2) (N := some 50) (v := ?_) (a' := ?_) #[true, true, true, false, false] rfl rfl (by kernel_rfl) (fun _ _ _ h => h) (Or.inl ⟨by rfl, ?_⟩) hHeld.out ?_ ?_
    rotate_left
    · rintro w' ⟨s0, s1⟩
      go_simp
      with_reducible rfl
    rotate_left
    · simp only [Act.put, List.setIfInBounds_toArray, List.set_cons_zero, List.set_cons_succ, i64_w, i32_w]
      rfl
    refine one_ (i := 3) (N := some 51) #[true, true, true, true, false] rfl rfl (by kernel_rfl) (by decide) (fun KC hK => ?_)
    refine goes_ Try.func29 (by kernel_rfl) rfl #[.int .i64 (n : Int)] (by rfl) rfl rfl (by simp only [List.map_toArray, List.map_cons, List.map_nil]; rfl) ?_
    refine (pyramid_Count.calls (n : Int) (N : Int) _ HCT.out).mono ?_
    rintro _ w3 ⟨rfl, b⟩
    refine ⟨_, rfl, ?_⟩
    have K' := Aside0.mk (K.out.call (below_size K.out.below) b.below)
    clear K
    have K := K'
    clear K'
    clear b hHeld
    refine hK.out _ _ ⟨K.out.cell 4 rfl 0 rfl, K.out.cell 2 rfl 0 rfl⟩ (fun hHeld0 => ?_)
    have hHeld := Aside0.mk hHeld0
    clear hHeld0
    clear hK KC
    refine norm_ (a' := ?_) ?_ ?_
    rotate_left
    · show Act.put _ (some 51) _ = _
      simp only [Act.put, List.setIfInBounds_toArray, List.set_cons_zero, List.set_cons_succ, i64_w, i32_w]
      rfl
    refine pure_ (i := 4) (N := some 52) (v := ?_) (a' := ?_) #[true, true, true, true, true] rfl rfl (by kernel_rfl) (fun _ _ _ h => h) (Or.inl ⟨by rfl, ?_⟩) ?_ ?_
    rotate_left
    · intro w'
      go_simp
      with_reducible rfl
    rotate_left
    · simp only [Act.put, List.setIfInBounds_toArray, List.set_cons_zero, List.set_cons_succ, i64_w, i32_w]
      rfl
    refine done_ (by kernel_rfl) ?_
    clear hHeld
    go_wp2
    go_meet
    case rel => exact ⟨rfl, ⟨K.out⟩⟩
  case rest =>
  obtain ⟨rfl, K⟩ := hcut
  go_wp2
  clear HCT
  go_loopg [12] (m + 1) (fun kq v12 w' => ∃ j : Nat, v12 = .int .i64 (j : Int) ∧ j + kq = m + 1 ∧ Aside0 (Hold w.heap.size w w' [(g10, 26, #[.int .i64 0, .int .i64 0, .int .i64 0, .int .i64 0, .slice none 0 0]), (g9, 28, #[.int .i64 kk]), (g7, 3, #[.int .i64 (n : Int)]), (g6, 23, #[.int .i64 x0, .int .i64 y0, .int .i64 x1, .int .i64 y1]), (g5, 32, #[.slice (some ⟨gb, 0, none⟩) N cN])] []))
  case atStart => exact ⟨0, rfl, by omega, ⟨K.out⟩⟩
  case round =>
  clear K
  obtain ⟨j, rfl, hj, K⟩ := hrel
  by_cases hjm : j ≤ m
  · have hb0 : decide ((j : Int) ≤ (m : Int)) = true := decide_eq_true (by omega)
    have hb0' : decide (j ≤ m) = true := decide_eq_true hjm
    have hl1 : ((j : Int) < (N : Int)) = True := eq_true (by have := HM3.out; omega)
    have hl2 : (j < N) = True := eq_true (by have := HM3.out; omega)
    have hwj : wrap64 ((j : Int) + 1) = ((j + 1 : Nat) : Int) := by have := HM3.out; have := HNP.out; have := HNN.out; unfold wrap64; omega
    obtain ⟨p, hp⟩ : ∃ p, ps[j]? = some p := ⟨_, List.getElem?_eq_getElem (show j < ps.length by have := HNP.out; have := HM3.out; omega)⟩
    have hb := HALL.out j p (by have := HM3.out; omega) hp
    have hrg := HBD.out.cells j p hp
    obtain ⟨Aq, cq, hpv, hcq⟩ := HBD.out.data j p hp
    obtain ⟨pv, q0, q1, q2, q3, Dq⟩ := p
    dsimp only at hpv hcq hb
    subst hpv
    have HRG := Aside0.mk (show w.rangeAt gb (j * 5) [.int .i64 q0, .int .i64 q1, .int .i64 q2, .int .i64 q3, .slice Aq Dq.length cq] by rw [Nat.mul_comm]; exact hrg)
    have HRQ := Aside0.mk (show w.rangeAt gb (j * 5) [.int .i64 q0, .int .i64 q1, .int .i64 q2, .int .i64 q3] from fun i v hi => HRG.out i v (by rcases i with _ | _ | _ | _ | i <;> first | exact hi | (simp at hi)))
    have HCQ := Aside0.mk hcq
    have HVQ := Aside0.mk hb.1.valid
    have HBQ := Aside0.mk hb.2.1
    have HJM := Aside0.mk (And.intro hj hjm)
    clear hb hcq hrg hp hj hjm
    go_upto_region 10 with (fail)
    go_cut [77] (fun v77 wc => v77 = .bool false ∧ Aside0 (Hold w.heap.size w wc [(g10, 26, #[.int .i64 0, .int .i64 0, .int .i64 0, .int .i64 0, .slice none 0 0]), (g9, 28, #[.int .i64 kk]), (g7, 3, #[.int .i64 (n : Int)]), (g6, 23, #[.int .i64 x0, .int .i64 y0, .int .i64 x1, .int .i64 y1]), (g5, 32, #[.slice (some ⟨gb, 0, none⟩) N cN])] []))
    case first =>
      have K' := Aside0.mk (K.out.drew)
      clear K
      have K := K'
      clear K'
      refine start_ (n := 18) (S := fun w' => w'.cell? ⟨g5, 0, none⟩ = some (.slice (some ⟨gb, 0, none⟩) N cN) ∧ w'.heap[g6]? = some (.cells #[.int .i64 x0, .int .i64 y0, .int .i64 x1, .int .i64 y1] 23 (0, 0)) ∧ w'.cell? ⟨g7, 0, none⟩ = some (.int .i64 (n : Int)) ∧ w'.rangeAt gb (j * 5) [.int .i64 q0, .int .i64 q1, .int .i64 q2, .int .i64 q3, .slice Aq Dq.length cq] ∧ w'.rangeAt gb (j * 5) [.int .i64 q0, .int .i64 q1, .int .i64 q2, .int .i64 q3]) (ds := []) #[false, false, false, false, false, false, false, false, false, false, false, false, false, false, false, false, false, false] (by kernel_rfl) rfl rfl ⟨K.out.cell 4 rfl 0 rfl, K.out.get 3 rfl, K.out.cell 2 rfl 0 rfl, range_below HRG.out K.out.below, range_below HRQ.out K.out.below⟩ (fun hHeld0 => ?_)
      generalize hw2 : wr.drew = w2 at *
      clear hw2
      have hHeld := Aside0.mk hHeld0
      clear hHeld0
      refine take_ (i := 0) (N := some 60) (v := ?_) (a' := ?_) #[true, false, false, false, false, false, false, false, false, false, false, false, false, false, false, false, false, false] rfl rfl (by kernel_rfl) (fun _ _ _ h => h) (Or.inl ⟨by rfl, ?_⟩) hHeld.out ?_ ?_
      rotate_left
      · rintro w' ⟨s0, s1, s2, s3, s4⟩
        go_simp
        with_reducible rfl
      rotate_left
      · simp only [Act.put, List.setIfInBounds_toArray, List.set_cons_zero, List.set_cons_succ, i64_w, i32_w]
        rfl
      refine pure_ (i := 1) (N := some 61) (v := ?_) (a' := ?_) #[true, true, false, false, false, false, false, false, false, false, false, false, false, false, false, false, false, false] rfl rfl (by kernel_rfl) (fun _ _ _ h => h) (Or.inl ⟨by rfl, ?_⟩) ?_ ?_
      rotate_left
      · intro w'
        go_simp
        with_reducible rfl
      rotate_left
      · simp only [Act.put, List.setIfInBounds_toArray, List.set_cons_zero, List.set_cons_succ, i64_w, i32_w]
        rfl
      refine pure_ (i := 2) (N := some 62) (v := ?_) (a' := ?_) #[true, true, true, false, false, false, false, false, false, false, false, false, false, false, false, false, false, false] rfl rfl (by kernel_rfl) (fun _ _ _ h => h) (Or.inl ⟨by rfl, ?_⟩) ?_ ?_
      rotate_left
      · intro w'
        go_simp
        with_reducible rfl
      rotate_left
      · simp only [Act.put, List.setIfInBounds_toArray, List.set_cons_zero, List.set_cons_succ, i64_w, i32_w]
        rfl
      refine take_ (i := 3) (N := some 63) (v := .agg #[.int .i64 q0, .int .i64 q1, .int .i64 q2, .int .i64 q3, .slice Aq Dq.length cq]) (a' := ?_) #[true, true, true, true, false, false, false, false, false, false, false, false, false, false, false, false, false, false] rfl rfl (by kernel_rfl) (fun _ _ _ h => h) (load_range_yields (cs := [.int .i64 q0, .int .i64 q1, .int .i64 q2, .int .i64 q3, .slice Aq Dq.length cq]) (by rfl) 26 (.tmp 62) rfl rfl (fun _ h => h.2.2.2.1) Try.underlying26 rfl rfl) hHeld.out ?_ ?_
      rotate_left
      · simp only [Act.put, List.setIfInBounds_toArray, List.set_cons_zero, List.set_cons_succ, i64_w, i32_w]
        rfl
      refine one_ (i := 4) (N := some 64) #[true, true, true, true, true, false, false, false, false, false, false, false, false, false, false, false, false, false] rfl rfl (by kernel_rfl) (by decide) (fun KC hK => ?_)
      refine goes_ Try.func25 (by kernel_rfl) rfl #[.agg #[.int .i64 q0, .int .i64 q1, .int .i64 q2, .int .i64 q3, .slice Aq Dq.length cq]] (by rfl) rfl rfl (by simp only [List.map_toArray, List.map_cons, List.map_nil]; rfl) ?_
      refine (plane_Valid.calls q0 q1 q2 q3 Aq cq Dq true _ (Kd.C_below HCQ.out.2 K.out.below) HCQ.out.1 HVQ.out).mono ?_
      rintro _ w3 ⟨rfl, b⟩
      refine ⟨_, rfl, ?_⟩
      have K' := Aside0.mk (K.out.call (below_size K.out.below) b)
      clear K
      have K := K'
      clear K'
      clear b hHeld
      refine hK.out _ _ ⟨K.out.cell 4 rfl 0 rfl, K.out.get 3 rfl, K.out.cell 2 rfl 0 rfl, range_below HRG.out K.out.below, range_below HRQ.out K.out.below⟩ (fun hHeld0 => ?_)
      have hHeld := Aside0.mk hHeld0
      clear hHeld0
      clear hK KC
      refine norm_ (a' := ?_) ?_ ?_
      rotate_left
      · show Act.put _ (some 64) _ = _
        simp only [Act.put, List.setIfInBounds_toArray, List.set_cons_zero, List.set_cons_succ, i64_w, i32_w]
        rfl
      refine pure_ (i := 5) (N := some 65) (v := ?_) (a' := ?_) #[true, true, true, true, true, true, false, false, false, false, false, false, false, false, false, false, false, false] rfl rfl (by kernel_rfl) (fun _ _ _ h => h) (Or.inl ⟨by rfl, ?_⟩) ?_ ?_
      rotate_left
      · intro w'
        go_simp
        with_reducible rfl
      rotate_left
      · simp only [Act.put, List.setIfInBounds_toArray, List.set_cons_zero, List.set_cons_succ, i64_w, i32_w]
        rfl
      refine pure_ (i := 6) (N := some 66) (v := ?_) (a' := ?_) #[true, true, true, true, true, true, true, false, false, false, false, false, false, false, false, false, false, false] rfl rfl (by kernel_rfl) (fun _ _ _ h => h) (Or.inl ⟨by rfl, ?_⟩) ?_ ?_
      rotate_left
      · intro w'
        go_simp
        with_reducible rfl
      rotate_left
      · simp only [Act.put, List.setIfInBounds_toArray, List.set_cons_zero, List.set_cons_succ, i64_w, i32_w]
        rfl
      refine take_ (i := 7) (N := some 67) (v := ?_) (a' := ?_) #[true, true, true, true, true, true, true, true, false, false, false, false, false, false, false, false, false, false] rfl rfl (by kernel_rfl) (fun _ _ _ h => h) (Or.inl ⟨by rfl, ?_⟩) hHeld.out ?_ ?_
      rotate_left
      · rintro w' ⟨s0, s1, s2, s3, s4⟩
        go_simp
        with_reducible rfl
      rotate_left
      · simp only [Act.put, List.setIfInBounds_toArray, List.set_cons_zero, List.set_cons_succ, i64_w, i32_w]
        rfl
      refine pure_ (i := 8) (N := some 68) (v := ?_) (a' := ?_) #[true, true, true, true, true, true, true, true, true, false, false, false, false, false, false, false, false, false] rfl rfl (by kernel_rfl) (fun _ _ _ h => h) (Or.inl ⟨by rfl, ?_⟩) ?_ ?_
      rotate_left
      · intro w'
        go_simp
        with_reducible rfl
      rotate_left
      · simp only [Act.put, List.setIfInBounds_toArray, List.set_cons_zero, List.set_cons_succ, i64_w, i32_w]
        rfl
      refine pure_ (i := 9) (N := some 69) (v := ?_) (a' := ?_) #[true, true, true, true, true, true, true, true, true, true, false, false, false, false, false, false, false, false] rfl rfl (by kernel_rfl) (fun _ _ _ h => h) (Or.inl ⟨by rfl, ?_⟩) ?_ ?_
      rotate_left
      · intro w'
        go_simp
        with_reducible rfl
      rotate_left
      · simp only [Act.put, List.setIfInBounds_toArray, List.set_cons_zero, List.set_cons_succ, i64_w, i32_w]
        rfl
      refine pure_ (i := 10) (N := some 70) (v := ?_) (a' := ?_) #[true, true, true, true, true, true, true, true, true, true, true, false, false, false, false, false, false, false] rfl rfl (by kernel_rfl) (fun _ _ _ h => h) (Or.inl ⟨by rfl, ?_⟩) ?_ ?_
      rotate_left
      · intro w'
        go_simp
        with_reducible rfl
      rotate_left
      · simp only [Act.put, List.setIfInBounds_toArray, List.set_cons_zero, List.set_cons_succ, i64_w, i32_w]
        rfl
      refine take_ (i := 11) (N := some 71) (v := .agg #[.int .i64 q0, .int .i64 q1, .int .i64 q2, .int .i64 q3]) (a' := ?_) #[true, true, true, true, true, true, true, true, true, true, true, true, false, false, false, false, false, false] rfl rfl (by kernel_rfl) (fun _ _ _ h => h) (load_range_yields (cs := [.int .i64 q0, .int .i64 q1, .int .i64 q2, .int .i64 q3]) (by rfl) 23 (.tmp 70) rfl rfl (fun _ h => h.2.2.2.2) Try.underlying23 rfl rfl) hHeld.out ?_ ?_
      rotate_left
      · simp only [Act.put, List.setIfInBounds_toArray, List.set_cons_zero, List.set_cons_succ, i64_w, i32_w]
        rfl
      refine take_ (i := 12) (N := some 72) (v := .agg #[.int .i64 x0, .int .i64 y0, .int .i64 x1, .int .i64 y1]) (a' := ?_) #[true, true, true, true, true, true, true, true, true, true, true, true, true, false, false, false, false, false] rfl rfl (by kernel_rfl) (fun _ _ _ h => h) (load_all_yields (by rfl) 23 (.tmp 6) rfl rfl (fun _ h => h.2.1) Try.underlying23 rfl rfl) hHeld.out ?_ ?_
      rotate_left
      · simp only [Act.put, List.setIfInBounds_toArray, List.set_cons_zero, List.set_cons_succ, i64_w, i32_w]
        rfl
      refine take_ (i := 13) (N := some 73) (v := ?_) (a' := ?_) #[true, true, true, true, true, true, true, true, true, true, true, true, true, true, false, false, false, false] rfl rfl (by kernel_rfl) (fun _ _ _ h => h) (Or.inl ⟨by rfl, ?_⟩) hHeld.out ?_ ?_
      rotate_left
      · rintro w' ⟨s0, s1, s2, s3, s4⟩
        go_simp
        with_reducible rfl
      rotate_left
      · simp only [Act.put, List.setIfInBounds_toArray, List.set_cons_zero, List.set_cons_succ, i64_w, i32_w]
        rfl
      refine pure_ (i := 14) (N := some 74) (v := ?_) (a' := ?_) #[true, true, true, true, true, true, true, true, true, true, true, true, true, true, true, false, false, false] rfl rfl (by kernel_rfl) (fun _ _ _ h => h) (Or.inl ⟨by rfl, ?_⟩) ?_ ?_
      rotate_left
      · intro w'
        go_simp
        with_reducible rfl
      rotate_left
      · simp only [Act.put, List.setIfInBounds_toArray, List.set_cons_zero, List.set_cons_succ, i64_w, i32_w]
        rfl
      refine one_ (i := 15) (N := some 75) #[true, true, true, true, true, true, true, true, true, true, true, true, true, true, true, true, false, false] rfl rfl (by kernel_rfl) (by decide) (fun KC hK => ?_)
      refine goes_ Try.func39 (by kernel_rfl) rfl #[.agg #[.int .i64 x0, .int .i64 y0, .int .i64 x1, .int .i64 y1], .int .i64 (n : Int), .int .i64 (j : Int)] (by rfl) rfl rfl (by simp only [List.map_toArray, List.map_cons, List.map_nil]; rfl) ?_
      refine (pyramid_Band.good x0 y0 x1 y1 (n : Int) (j : Int) q0 q1 q2 q3 _ HBQ.out).mono ?_
      rintro _ w4 ⟨rfl, b⟩
      refine ⟨_, rfl, ?_⟩
      have K' := Aside0.mk (K.out.call (below_size K.out.below) b)
      clear K
      have K := K'
      clear K'
      clear b hHeld
      refine hK.out _ _ ⟨K.out.cell 4 rfl 0 rfl, K.out.get 3 rfl, K.out.cell 2 rfl 0 rfl, range_below HRG.out K.out.below, range_below HRQ.out K.out.below⟩ (fun hHeld0 => ?_)
      have hHeld := Aside0.mk hHeld0
      clear hHeld0
      clear hK KC
      refine norm_ (a' := ?_) ?_ ?_
      rotate_left
      · show Act.put _ (some 75) _ = _
        simp only [Act.put, List.setIfInBounds_toArray, List.set_cons_zero, List.set_cons_succ, i64_w, i32_w]
        rfl
      refine pure_ (i := 16) (N := some 76) (v := ?_) (a' := ?_) #[true, true, true, true, true, true, true, true, true, true, true, true, true, true, true, true, true, false] rfl rfl (by kernel_rfl) (fun _ _ _ h => h) (Or.inl ⟨by rfl, ?_⟩) ?_ ?_
      rotate_left
      · intro w'
        go_simp
        with_reducible rfl
      rotate_left
      · simp only [Act.put, List.setIfInBounds_toArray, List.set_cons_zero, List.set_cons_succ, i64_w, i32_w]
        rfl
      refine pure_ (i := 17) (N := some 77) (v := ?_) (a' := ?_) #[true, true, true, true, true, true, true, true, true, true, true, true, true, true, true, true, true, true] rfl rfl (by kernel_rfl) (fun _ _ _ h => h) (Or.inl ⟨by rfl, ?_⟩) ?_ ?_
      rotate_left
      · intro w'
        go_simp
        with_reducible rfl
      rotate_left
      · simp only [Act.put, List.setIfInBounds_toArray, List.set_cons_zero, List.set_cons_succ, i64_w, i32_w]
        rfl
      refine done_ (by kernel_rfl) ?_
      clear hHeld
      go_wp2
      go_meet
      case rel => exact ⟨rfl, ⟨K.out⟩⟩
    case rest =>
    obtain ⟨rfl, K⟩ := hcut
    go_wp2
    go_roundg (m - j)
    case measure => have := HJM.out; omega
    case rel => exact ⟨j + 1, by first | rfl | rw [hwj], by have := HJM.out; omega, ⟨K.out⟩⟩
  · have hb0 : decide ((j : Int) ≤ (m : Int)) = false := decide_eq_false (by omega)
    have hb0' : decide (j ≤ m) = false := decide_eq_false hjm
    clear hj hjm
    go_wp2
    have HW3 := Aside0.mk hw3
    clear hb0 hb0' hw3
    go_loopg [13] (m + 1) (fun kq v13 w' => ∃ j : Nat, v13 = .int .i64 (j : Int) ∧ j + kq = m + 1 ∧ Aside0 (Hold w.heap.size w w' [(g10, 26, #[.int .i64 0, .int .i64 0, .int .i64 0, .int .i64 0, .slice none 0 0]), (g9, 28, #[.int .i64 kk]), (g7, 3, #[.int .i64 (n : Int)]), (g6, 23, #[.int .i64 x0, .int .i64 y0, .int .i64 x1, .int .i64 y1]), (g5, 32, #[.slice (some ⟨gb, 0, none⟩) N cN])] []))
    case atStart => exact ⟨0, rfl, by omega, ⟨K.out⟩⟩
    case round =>
    clear K
    obtain ⟨j, rfl, hj, K⟩ := hrel
    by_cases hjm : j ≤ m
    · have hb0 : decide ((j : Int) ≤ wrap64 (3 * (res : Int))) = true := by rw [HW3.out]; exact decide_eq_true (by omega)
      have hl1 : ((j : Int) < (N : Int)) = True := eq_true (by have := HM3.out; omega)
      have hl2 : (j < N) = True := eq_true (by have := HM3.out; omega)
      have hwj : wrap64 ((j : Int) + 1) = ((j + 1 : Nat) : Int) := by have := HM3.out; have := HNP.out; have := HNN.out; unfold wrap64; omega
      obtain ⟨p, hp⟩ : ∃ p, ps[j]? = some p := ⟨_, List.getElem?_eq_getElem (show j < ps.length by have := HNP.out; have := HM3.out; omega)⟩
      have hb := HALL.out j p (by have := HM3.out; omega) hp
      have hrg := HBD.out.cells j p hp
      obtain ⟨Aq, cq, hpv, hcq⟩ := HBD.out.data j p hp
      obtain ⟨pv, q0, q1, q2, q3, Dq⟩ := p
      dsimp only at hpv hcq hb
      subst hpv
      obtain ⟨ke, hke⟩ := hb.2.2
      have HRG := Aside0.mk (show w.cell? ⟨gb, j * 5 + 4, none⟩ = some (.slice Aq Dq.length cq) by rw [Nat.mul_comm]; exact hrg 4 _ rfl)
      have HCQ := Aside0.mk hcq
      have HKE := Aside0.mk hke
      have HJM := Aside0.mk (And.intro hj hjm)
      clear hb hcq hrg hp hj hjm hke
      have p5 : wr.cell? ⟨g5, 0, none⟩ = some (.slice (some ⟨gb, 0, none⟩) N cN) := K.out.cell 4 rfl 0 rfl
      have pb : wr.cell? ⟨gb, j * 5 + 4, none⟩ = some (.slice Aq Dq.length cq) := range_below (cs := [.slice Aq Dq.length cq]) (i := j * 5 + 4) (fun i v hi => by rcases i with _ | i; (rw [← hi]; exact HRG.out); simp at hi) K.out.below 0 _ rfl
      go_wp2_with (first
        | (go_at_call 28; (with_reducible refine (pyramid_exceeds.calls ke Aq cq Dq 4294967296 false _ (Kd.C_below HCQ.out.2 K.out.below) HCQ.out.1 HKE.out).mono ?_); rintro _ w28 ⟨rfl, b⟩; have K' := Aside0.mk (K.out.call (below_size K.out.below) b.below); clear K; have K := K'; clear K'; clear b p5 pb))
      go_roundg (m - j)
      case measure => have := HJM.out; omega
      case rel => exact ⟨j + 1, by first | rfl | rw [hwj], by have := HJM.out; omega, ⟨K.out⟩⟩
    · have hb0 : decide ((j : Int) ≤ wrap64 (3 * (res : Int))) = false := by rw [HW3.out]; exact decide_eq_false (by omega)
      clear hj hjm
      obtain ⟨p, hp⟩ : ∃ p, ps[0]? = some p := ⟨_, List.getElem?_eq_getElem (show 0 < ps.length by have := HNP.out; omega)⟩
      have hb := HALL.out 0 p (Nat.zero_le _) hp
      have hrg := HBD.out.cells 0 p hp
      obtain ⟨Aq, cq, hpv, hcq⟩ := HBD.out.data 0 p hp
      have hu0 : p.2 = u 0 := by have h := HU0.out; rw [List.getElem?_map, hp] at h; exact Option.some.inj h
      obtain ⟨pv, a0, e0, c0, f0, D0⟩ := p
      dsimp only at hpv hcq hb hu0
      subst hpv
      have HRG := Aside0.mk (show w.cell? ⟨gb, 4, none⟩ = some (.slice Aq D0.length cq) from hrg 4 _ rfl)
      have HRQ := Aside0.mk (show w.rangeAt gb 0 [.int .i64 a0, .int .i64 e0, .int .i64 c0, .int .i64 f0] from fun i v hi => hrg i v (by rcases i with _ | _ | _ | _ | i <;> first | exact hi | (simp at hi)))
      have HCQ := Aside0.mk hcq
      have HDL := Aside0.mk (show D0.length ≤ 1048576 by have h := hb.1.2.2; dsimp only at h; omega)
      have HUU := Aside0.mk hu0
      have hl1 : ((0 : Int) < (N : Int)) = True := eq_true (by have := HM3.out; omega)
      have hl2 : (0 < N) = True := eq_true (by have := HM3.out; omega)
      clear hb hcq hrg hp hu0
      go_upto_region 17 with (fail)
      clear hb0
      go_cut [14] (fun v14 wc => ∃ (g14 : Nat) (A9 : Option Addr) (d9 : Nat), v14 = .pointer (some ⟨g14, 0, none⟩) ∧ Aside0 (Hold w.heap.size w wc [(g14, 26, #[.int .i64 a0, .int .i64 e0, .int .i64 c0, .int .i64 f0, .slice A9 D0.length d9]), (g10, 26, #[.int .i64 0, .int .i64 0, .int .i64 0, .int .i64 0, .slice none 0 0]), (g9, 28, #[.int .i64 kk]), (g7, 3, #[.int .i64 (n : Int)]), (g6, 23, #[.int .i64 x0, .int .i64 y0, .int .i64 x1, .int .i64 y1]), (g5, 32, #[.slice (some ⟨gb, 0, none⟩) N cN])] [(.slice A9 D0.length d9, D0)]))
      case first =>
        have K' := Aside0.mk (K.out.drew)
        clear K
        have K := K'
        clear K'
        refine start_ (n := 12) (S := fun w' => w'.cell? ⟨g5, 0, none⟩ = some (.slice (some ⟨gb, 0, none⟩) N cN) ∧ w'.cell? ⟨gb, 4, none⟩ = some (.slice Aq D0.length cq) ∧ w'.rangeAt gb 0 [.int .i64 a0, .int .i64 e0, .int .i64 c0, .int .i64 f0]) (ds := [11]) #[false, false, false, false, false, false, false, false, false, false, false, false] (by kernel_rfl) rfl rfl ⟨K.out.cell 4 rfl 0 rfl, range_below (cs := [.slice Aq D0.length cq]) (i := 4) (fun i v hi => by rcases i with _ | i; (rw [← hi]; exact HRG.out); simp at hi) K.out.below 0 _ rfl, range_below HRQ.out K.out.below⟩ (fun hHeld0 => ?_)
        generalize hw2 : wr.drew = w2 at *
        clear hw2
        have hHeld := Aside0.mk hHeld0
        clear hHeld0
        refine take_ (i := 0) (N := some 92) (v := ?_) (a' := ?_) #[true, false, false, false, false, false, false, false, false, false, false, false] rfl rfl (by kernel_rfl) (fun _ _ _ h => h) (Or.inl ⟨by rfl, ?_⟩) hHeld.out ?_ ?_
        rotate_left
        · rintro w' ⟨s0, s1, s2⟩
          go_simp
          with_reducible rfl
        rotate_left
        · simp only [Act.put, List.setIfInBounds_toArray, List.set_cons_zero, List.set_cons_succ, i64_w, i32_w]
          rfl
        refine pure_ (i := 1) (N := some 93) (v := ?_) (a' := ?_) #[true, true, false, false, false, false, false, false, false, false, false, false] rfl rfl (by kernel_rfl) (fun _ _ _ h => h) (Or.inl ⟨by rfl, ?_⟩) ?_ ?_
        rotate_left
        · intro w'
          go_simp
          with_reducible rfl
        rotate_left
        · simp only [Act.put, List.setIfInBounds_toArray, List.set_cons_zero, List.set_cons_succ, i64_w, i32_w]
          rfl
        refine pure_ (i := 2) (N := some 94) (v := ?_) (a' := ?_) #[true, true, true, false, false, false, false, false, false, false, false, false] rfl rfl (by kernel_rfl) (fun _ _ _ h => h) (Or.inl ⟨by rfl, ?_⟩) ?_ ?_
        rotate_left
        · intro w'
          go_simp
          with_reducible rfl
        rotate_left
        · simp only [Act.put, List.setIfInBounds_toArray, List.set_cons_zero, List.set_cons_succ, i64_w, i32_w]
          rfl
        refine take_ (i := 3) (N := some 95) (v := .agg #[.int .i64 a0, .int .i64 e0, .int .i64 c0, .int .i64 f0]) (a' := ?_) #[true, true, true, true, false, false, false, false, false, false, false, false] rfl rfl (by kernel_rfl) (fun _ _ _ h => h) (load_range_yields (cs := [.int .i64 a0, .int .i64 e0, .int .i64 c0, .int .i64 f0]) (by rfl) 23 (.tmp 94) rfl rfl (fun _ h => h.2.2) Try.underlying23 rfl rfl) hHeld.out ?_ ?_
        rotate_left
        · simp only [Act.put, List.setIfInBounds_toArray, List.set_cons_zero, List.set_cons_succ, i64_w, i32_w]
          rfl
        refine take_ (i := 4) (N := some 96) (v := ?_) (a' := ?_) #[true, true, true, true, true, false, false, false, false, false, false, false] rfl rfl (by kernel_rfl) (fun _ _ _ h => h) (Or.inl ⟨by rfl, ?_⟩) hHeld.out ?_ ?_
        rotate_left
        · rintro w' ⟨s0, s1, s2⟩
          go_simp
          with_reducible rfl
        rotate_left
        · simp only [Act.put, List.setIfInBounds_toArray, List.set_cons_zero, List.set_cons_succ, i64_w, i32_w]
          rfl
        refine pure_ (i := 5) (N := some 97) (v := ?_) (a' := ?_) #[true, true, true, true, true, true, false, false, false, false, false, false] rfl rfl (by kernel_rfl) (fun _ _ _ h => h) (Or.inl ⟨by rfl, ?_⟩) ?_ ?_
        rotate_left
        · intro w'
          go_simp
          with_reducible rfl
        rotate_left
        · simp only [Act.put, List.setIfInBounds_toArray, List.set_cons_zero, List.set_cons_succ, i64_w, i32_w]
          rfl
        refine pure_ (i := 6) (N := some 98) (v := ?_) (a' := ?_) #[true, true, true, true, true, true, true, false, false, false, false, false] rfl rfl (by kernel_rfl) (fun _ _ _ h => h) (Or.inl ⟨by rfl, ?_⟩) ?_ ?_
        rotate_left
        · intro w'
          go_simp
          with_reducible rfl
        rotate_left
        · simp only [Act.put, List.setIfInBounds_toArray, List.set_cons_zero, List.set_cons_succ, i64_w, i32_w]
          rfl
        refine take_ (i := 7) (N := some 99) (v := ?_) (a' := ?_) #[true, true, true, true, true, true, true, true, false, false, false, false] rfl rfl (by kernel_rfl) (fun _ _ _ h => h) (Or.inl ⟨by rfl, ?_⟩) hHeld.out ?_ ?_
        rotate_left
        · rintro w' ⟨s0, s1, s2⟩
          go_simp
          with_reducible rfl
        rotate_left
        · simp only [Act.put, List.setIfInBounds_toArray, List.set_cons_zero, List.set_cons_succ, i64_w, i32_w]
          rfl
        refine two_ (i := 8) (j := 10) (Ni := some 100) (Nj := some 14) #[true, true, true, true, true, true, true, true, true, false, false, false] #[true, true, true, true, true, true, true, true, false, false, true, false] rfl rfl rfl rfl (by kernel_rfl) (by decide) (by decide) (fun KC hK => ?_) (fun KC hK => ?_)
        · skip
          refine Kd.R_append_rows_step (Kd.int .i64) (w0 := w2) w2.heap.size (by rfl) (.const (.slice none 0 0)) (.tmp 99) 24 3 (.int .i64 0) 8 rfl Try.underlying24 info3 rfl (by decide) (by omega) (.slice none 0 0) [] D0 Aq D0.length cq (fun _ => True) (fun _ => False) rfl rfl (Kd.R_nil _ _ _ _ _) (Kd.C_below HCQ.out.2 K.out.below) (fun _ _ h => h) (fun _ h => h.elim) (fun _ _ => trivial) (Below.refl _ _) (Nat.le_refl _) (by have := HDL.out; simp; omega) ?_
          intro v0 w5 ho hb hg hat
          rw [List.nil_append] at ho
          obtain ⟨A9, d9, rfl⟩ := Kd.R_slice ho
          have K' := Aside0.mk (K.out.add (below_size K.out.below) ho hb)
          clear K
          have K := K'
          clear K'
          clear ho hb hg hat hHeld
          refine hK.out _ _ ⟨K.out.cell 4 rfl 0 rfl, range_below (cs := [.slice Aq D0.length cq]) (i := 4) (fun i v hi => by rcases i with _ | i; (rw [← hi]; exact HRG.out); simp at hi) K.out.below 0 _ rfl, range_below HRQ.out K.out.below⟩ (fun hHeld0 => ?_)
          have hHeld := Aside0.mk hHeld0
          clear hHeld0
          clear hK KC
          refine norm_ (a' := ?_) ?_ ?_
          rotate_left
          · show Act.put _ (some 100) _ = _
            simp only [Act.put, List.setIfInBounds_toArray, List.set_cons_zero, List.set_cons_succ, i64_w, i32_w]
            rfl
          refine pure_ (i := 9) (N := some 101) (v := ?_) (a' := ?_) #[true, true, true, true, true, true, true, true, true, true, false, false] rfl rfl (by kernel_rfl) (fun _ _ _ h => h) (Or.inl ⟨by rfl, ?_⟩) ?_ ?_
          rotate_left
          · intro w'
            go_simp
            with_reducible rfl
          rotate_left
          · simp only [Act.put, List.setIfInBounds_toArray, List.set_cons_zero, List.set_cons_succ, i64_w, i32_w]
            rfl
          refine one_ (i := 10) (N := some 14) #[true, true, true, true, true, true, true, true, true, true, true, false] rfl rfl (by kernel_rfl) (by decide) (fun KC hK => ?_)
          refine box_step ?hg (N := 14) ?hd (cs := #[.int .i64 0, .int .i64 0, .int .i64 0, .int .i64 0, .slice none 0 0]) (t := 26) ?hr ?_
          case hd => rfl
          case hg => rfl
          case hr => first | (go_simp; done) | (go_simp; rfl)
          intro g14 hg w4 hbox hb
          have K' := Aside0.mk (K.out.box (below_size K.out.below) hg hbox hb trivial)
          clear K
          have K := K'
          clear K'
          clear hg hbox hb hHeld
          refine hK.out _ _ ⟨K.out.cell 5 rfl 0 rfl, range_below (cs := [.slice Aq D0.length cq]) (i := 4) (fun i v hi => by rcases i with _ | i; (rw [← hi]; exact HRG.out); simp at hi) K.out.below 0 _ rfl, range_below HRQ.out K.out.below⟩ (fun hHeld0 => ?_)
          have hHeld := Aside0.mk hHeld0
          clear hHeld0
          clear hK KC
          refine norm_ (a' := ?_) ?_ ?_
          rotate_left
          · show Act.put _ (some 14) _ = _
            simp only [Act.put, List.setIfInBounds_toArray, List.set_cons_zero, List.set_cons_succ, i64_w, i32_w]
            rfl
          refine last_ (i := 11) (N := none) #[true, true, true, true, true, true, true, true, true, true, true, true] rfl rfl (by kernel_rfl) (by decide) (fun KC hK => ?_)
          refine store_step (cs := #[.int .i64 a0, .int .i64 e0, .int .i64 c0, .int .i64 f0, .slice A9 D0.length d9]) (by rfl) rfl 26 (.tmp 14) (.tmp 101) rfl rfl (by kernel_rfl) (K.out.get 0 rfl) rfl rfl (by first | (kernel_rfl) | (simp [Value.oneCell'])) ?_
          intro WS hs
          refine hK.out _ _ ?_
          have K' := Aside0.mk (K.out.stored 0 rfl hs)
          clear K
          have K := K'
          clear K'
          clear hK KC hs hHeld
          refine done_ (by kernel_rfl) ?_
          go_wp2
          go_meet
          case rel => exact ⟨_, _, _, rfl, ⟨K.out⟩⟩
        · skip
          refine box_step ?hg (N := 14) ?hd (cs := #[.int .i64 0, .int .i64 0, .int .i64 0, .int .i64 0, .slice none 0 0]) (t := 26) ?hr ?_
          case hd => rfl
          case hg => rfl
          case hr => first | (go_simp; done) | (go_simp; rfl)
          intro g14 hg w4 hbox hb
          have K' := Aside0.mk (K.out.box (below_size K.out.below) hg hbox hb trivial)
          clear K
          have K := K'
          clear K'
          clear hg hbox hb hHeld
          refine hK.out _ _ ⟨K.out.cell 5 rfl 0 rfl, range_below (cs := [.slice Aq D0.length cq]) (i := 4) (fun i v hi => by rcases i with _ | i; (rw [← hi]; exact HRG.out); simp at hi) K.out.below 0 _ rfl, range_below HRQ.out K.out.below⟩ (fun hHeld0 => ?_)
          have hHeld := Aside0.mk hHeld0
          clear hHeld0
          clear hK KC
          refine norm_ (a' := ?_) ?_ ?_
          rotate_left
          · show Act.put _ (some 14) _ = _
            simp only [Act.put, List.setIfInBounds_toArray, List.set_cons_zero, List.set_cons_succ, i64_w, i32_w]
            rfl
          refine one_ (i := 8) (N := some 100) #[true, true, true, true, true, true, true, true, true, false, true, false] rfl rfl (by kernel_rfl) (by decide) (fun KC hK => ?_)
          refine Kd.R_append_rows_step (Kd.int .i64) (w0 := w4) w4.heap.size (by rfl) (.const (.slice none 0 0)) (.tmp 99) 24 3 (.int .i64 0) 8 rfl Try.underlying24 info3 rfl (by decide) (by omega) (.slice none 0 0) [] D0 Aq D0.length cq (fun _ => True) (fun _ => False) rfl rfl (Kd.R_nil _ _ _ _ _) (Kd.C_below HCQ.out.2 K.out.below) (fun _ _ h => h) (fun _ h => h.elim) (fun _ _ => trivial) (Below.refl _ _) (Nat.le_refl _) (by have := HDL.out; simp; omega) ?_
          intro v0 w5 ho hb hg hat
          rw [List.nil_append] at ho
          obtain ⟨A9, d9, rfl⟩ := Kd.R_slice ho
          have K' := Aside0.mk (K.out.add (below_size K.out.below) ho hb)
          clear K
          have K := K'
          clear K'
          clear ho hb hg hat hHeld
          refine hK.out _ _ ⟨K.out.cell 5 rfl 0 rfl, range_below (cs := [.slice Aq D0.length cq]) (i := 4) (fun i v hi => by rcases i with _ | i; (rw [← hi]; exact HRG.out); simp at hi) K.out.below 0 _ rfl, range_below HRQ.out K.out.below⟩ (fun hHeld0 => ?_)
          have hHeld := Aside0.mk hHeld0
          clear hHeld0
          clear hK KC
          refine norm_ (a' := ?_) ?_ ?_
          rotate_left
          · show Act.put _ (some 100) _ = _
            simp only [Act.put, List.setIfInBounds_toArray, List.set_cons_zero, List.set_cons_succ, i64_w, i32_w]
            rfl
          refine pure_ (i := 9) (N := some 101) (v := ?_) (a' := ?_) #[true, true, true, true, true, true, true, true, true, true, true, false] rfl rfl (by kernel_rfl) (fun _ _ _ h => h) (Or.inl ⟨by rfl, ?_⟩) ?_ ?_
          rotate_left
          · intro w'
            go_simp
            with_reducible rfl
          rotate_left
          · simp only [Act.put, List.setIfInBounds_toArray, List.set_cons_zero, List.set_cons_succ, i64_w, i32_w]
            rfl
          refine last_ (i := 11) (N := none) #[true, true, true, true, true, true, true, true, true, true, true, true] rfl rfl (by kernel_rfl) (by decide) (fun KC hK => ?_)
          refine store_step (cs := #[.int .i64 a0, .int .i64 e0, .int .i64 c0, .int .i64 f0, .slice A9 D0.length d9]) (by rfl) rfl 26 (.tmp 14) (.tmp 101) rfl rfl (by kernel_rfl) (K.out.get 0 rfl) rfl rfl (by first | (kernel_rfl) | (simp [Value.oneCell'])) ?_
          intro WS hs
          refine hK.out _ _ ?_
          have K' := Aside0.mk (K.out.stored 0 rfl hs)
          clear K
          have K := K'
          clear K'
          clear hK KC hs hHeld
          refine done_ (by kernel_rfl) ?_
          go_wp2
          go_meet
          case rel => exact ⟨_, _, _, rfl, ⟨K.out⟩⟩
      case rest =>
      obtain ⟨g14, A9, d9, rfl, K⟩ := hcut
      have hmf : ∀ (fn : Fn) (first cap : Array Value) (w : World), (Instr.makeFunc fn first cap).run Try.prog w = .ok (.func fn first cap) w := fun _ _ _ _ => rfl
      clear hl1 hl2 HRG HRQ HCQ HDL
      go_wp2
      go_loopg [16] res (fun kq v16 w' => ∃ (q : Nat) (p : Pl) (A9 : Option Addr) (d9 : Nat), v16 = .int .i64 ((q + 1 : Nat) : Int) ∧ q + kq = res ∧ Aside0 (p = u q) ∧ Aside0 (Hold w.heap.size w w' [(g14, 26, #[.int .i64 p.x0, .int .i64 p.y0, .int .i64 p.x1, .int .i64 p.y1, .slice A9 p.D.length d9]), (g10, 26, #[.int .i64 0, .int .i64 0, .int .i64 0, .int .i64 0, .slice none 0 0]), (g9, 28, #[.int .i64 kk]), (g7, 3, #[.int .i64 (n : Int)]), (g6, 23, #[.int .i64 x0, .int .i64 y0, .int .i64 x1, .int .i64 y1]), (g5, 32, #[.slice (some ⟨gb, 0, none⟩) N cN])] [(.slice A9 p.D.length d9, p.D)]))
      case atStart => exact ⟨0, ⟨a0, e0, c0, f0, D0⟩, A9, d9, rfl, by omega, HUU, ⟨K.out⟩⟩
      case round =>
      clear K HUU
      obtain ⟨q, p, A8, d8, rfl, hq, HPU, K⟩ := hrel
      obtain ⟨z, hz⟩ : ∃ z : Int, z = ((q + 1 : Nat) : Int) := ⟨_, rfl⟩
      rw [← hz]
      by_cases hqr : q < res
      · have hb0 : decide (z ≤ (res : Int)) = true := decide_eq_true (by omega)
        have hwz : wrap64 (z + 1) = ((q + 1 + 1 : Nat) : Int) := by have := HNN.out; unfold wrap64; omega
        have hst := HUS.out q hqr
        rw [← HPU.out] at hst
        obtain ⟨krq, a1, c1, e1, f1, D1, D2, D3, h1, h2, h3, hrs, hmt⟩ := hst
        have hx : ∀ (j : Nat) (pl : Pl), (ps.map (·.2))[j]? = some pl → ∃ (A : Option Addr) (c : Nat), ps[j]? = some (.slice A pl.D.length c, pl) := fun j pl hj => by
          rw [List.getElem?_map] at hj
          obtain ⟨pp, e1, e2⟩ := Option.map_eq_some_iff.mp hj
          obtain ⟨A, c, e3, _⟩ := HBD.out.data j pp e1
          subst e2
          exact ⟨A, c, by rw [e1, ← e3]⟩
        obtain ⟨B1, b1, hp1⟩ := hx _ _ h1
        obtain ⟨B2, b2, hp2⟩ := hx _ _ h2
        obtain ⟨B3, b3, hp3⟩ := hx _ _ h3
        obtain ⟨X, hX⟩ : ∃ X, X = u (q + 1) := ⟨_, rfl⟩
        rw [← hX] at hrs hmt
        have HP1 := Aside0.mk hp1
        have HP2 := Aside0.mk hp2
        have HP3 := Aside0.mk hp3
        have HRS := Aside0.mk hrs
        have HMT := Aside0.mk hmt
        have HXX := Aside0.mk hX
        have HZQ := Aside0.mk (show z = ((q + 1 : Nat) : Int) ∧ q ≤ 5 by have := HNN.out; omega)
        have HQN := Aside0.mk (show 3 * q + 3 < N by have := HNN.out; have := HNP.out; omega)
        have HQR := Aside0.mk (And.intro hq hqr)
        clear hx h1 h2 h3 hp1 hp2 hp3 hrs hmt hX hz hq hqr
        obtain ⟨a0, e0, c0, f0, D0⟩ := p
        obtain ⟨X0, Y0, X1, Y1, G⟩ := X
        dsimp only at *
        go_wp2_with (first
          | (go_at_call 40; refine (pyramid_Syn1.good krq q (n : Int) z kk x0 y0 x1 y1 X0 Y0 X1 Y1 a0 a1 c0 c1 e0 e1 f0 f1 A8 B1 B2 B3 d8 b1 b2 b3 D0 D1 D2 D3 G ps w.heap.size gb N cN g14 g10 g9 g7 g6 g5 w _ HBD.out rfl HZQ.out HQN.out HP1.out HP2.out HP3.out (by rw [HZQ.out.1]; exact HRS.out) HMT.out K.out).mono ?_; rintro _ w40 ⟨rfl, A9, d9, hH⟩; clear K; have K := Aside0.mk hH; clear hH))
        go_roundg (res - q - 1)
        case measure => have := HQR.out; omega
        case rel => exact ⟨q + 1, ⟨X0, Y0, X1, Y1, G⟩, A9, d9, by first | rfl | rw [hwz], by have := HQR.out; omega, HXX, ⟨K.out⟩⟩
      · have hb0 : decide (z ≤ (res : Int)) = false := decide_eq_false (by omega)
        obtain rfl : q = res := by omega
        have hpu := HPU.out
        subst hpu
        clear hz hq hqr HPU
        go_wp2_with (first
          | ((with_reducible refine gate_dst (N := 115) rfl ?_); refine load_ev rfl 26 (.tmp 14) rfl rfl (K.out.get 0 rfl) Try.underlying26 rfl ?_)
          | ((with_reducible refine gate_store (t := 26) (p := 10) (v := .tmp 115) rfl ?_); refine store_ev rfl rfl 26 (.tmp 10) (.tmp 115) rfl rfl rfl (K.out.get 1 rfl) rfl rfl (by first | (kernel_rfl) | (simp [Value.oneCell'])) ?_; intro W8 hs; have K' := Aside0.mk (K.out.stored 1 rfl hs); clear K; have K := K'; clear K'; clear hs))
        refine bodyPost_ret (results_ct rfl _ _ g10 26 _ (0, 0) _ rfl (K.out.get 1 rfl) Try.underlying26 rfl (by kernel_rfl)) rfl ?_
        exact ⟨_, rfl, K.out.noBlk⟩
end Go.Proofs.Ytcnpekpgghppnaa.Q
