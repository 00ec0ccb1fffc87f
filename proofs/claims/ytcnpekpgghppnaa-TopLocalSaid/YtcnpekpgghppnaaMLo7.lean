/- Texts of this session (words and printed walks, merged by wip/tools/merge.py) for the statement of the claim. -/
import Derived.Test.YtcnpekpgghppnaaMLo1
import Derived.Test.YtcnpekpgghppnaaMLo5
import Derived.Test.YtcnpekpgghppnaaMLo3
import Derived.Test.YtcnpekpgghppnaaMLo6
namespace Go.Proofs.Ytcnpekpgghppnaa.Q
open Go.RowKit Go.Proofs.YtcnpekpgghppnaaW.PrintWords Go.Proofs.YtcnpekpgghppnaaW.PrintLast Go.Proofs.YtcnpekpgghppnaaW.PrintMore
set_option linter.unusedVariables false
set_option linter.unusedSimpArgs false
theorem Hold.sub {n : Nat} {w0 W : World} {l : List (Nat × Nat × Array Value)} {r r' : List (Value × List Int)} (h : Hold n w0 W l r) (f : Nat → Nat) (hf : ∀ i j, f i = f j → i = j) (hr : ∀ (i : Nat) (p : Value × List Int), r'[i]? = some p → r[f i]? = some p) : Hold n w0 W l r' :=
 ⟨h.bks, fun i j b p hi hj => h.off i (f j) b p hi (hr j p hj), fun i p hi => h.row (f i) p (hr i p hi), fun i j p q hij hi hj => h.apart (f i) (f j) p q (fun e => hij (hf i j e)) (hr i p hi) (hr j q hj)⟩
theorem Hold.erase {n : Nat} {w0 W : World} {l : List (Nat × Nat × Array Value)} {r : List (Value × List Int)} (h : Hold n w0 W l r) (i : Nat) : Hold n w0 W l (r.eraseIdx i) :=
 h.sub (fun j => if j < i then j else j + 1) (fun a b hab => by split at hab <;> split at hab <;> omega) (fun j p hj => by
  rw [List.getElem?_eraseIdx] at hj
  split <;> rename_i hlt
  ·rwa [if_pos hlt] at hj
  ·rwa [if_neg hlt] at hj)
theorem final_planes (kq : Nat) (done : List (Value × Pl)) (p1 p2 p3 : Value × Pl) : (((List.replicate (3 * (kq + 1) + 1) zeroPl ++ done).set (3 * kq + 1) p1).set (3 * kq + 2) p2).set (3 * kq + 3) p3 = List.replicate (3 * kq + 1) zeroPl ++ p1 :: p2 :: p3 :: done := by
 have e : List.replicate (3 * (kq + 1) + 1) zeroPl ++ done = List.replicate (3 * kq + 1) zeroPl ++ (zeroPl :: zeroPl :: zeroPl :: done) := by
  rw [show 3 * (kq + 1) + 1 = (3 * kq + 1) + 3 by omega, ← List.replicate_append_replicate, List.append_assoc]
  rfl
 rw [e]
 rw [List.set_append_right _ _ (by simp), List.set_append_right _ _ (by simp), List.set_append_right _ _ (by simp)]
 simp only [List.length_replicate]
 rw [show 3 * kq + 1 - (3 * kq + 1) = 0 by omega, show 3 * kq + 2 - (3 * kq + 1) = 1 by omega, show 3 * kq + 3 - (3 * kq + 1) = 2 by omega]
 rfl
set_option maxHeartbeats 8000000 in
set_option maxRecDepth 100000 in
theorem pyramid_Analyze.good (km ke n : Nat) (kk mg x0 y0 x1 y1 : Int) (A : Option Addr) (c : Nat) (D : List Int) (bs : List Pl) (w : World)
  (hr : Kd.C (Kd.int .i64) w A D.length D) (hc : D.length ≤ c) (hv : PV x0 y0 x1 y1 D) (hm : lift_Margin.f km kk = some mg) (hmg : mg ≠ 0) (hex : pyramid_exceeds.f ke D 1048576 = some false) (hn : n ≤ 5) (hA : Ana kk n ⟨x0, y0, x1, y1, D⟩ bs) :
  Calls Try.prog 9 #[.agg #[.int .i64 x0, .int .i64 y0, .int .i64 x1, .int .i64 y1, .slice A D.length c], .int .i64 (n : Int), .int .i64 kk] w fun e w' => ∃ (g : Nat) (ps : List (Value × Pl)), ps.map (·.2) = bs ∧ e = .returned (.tuple #[.slice (some ⟨g, 0, none⟩) ps.length ps.length, .int .i64 0]) ∧ Hold w.heap.size w w' [(g, 26, cellsOf ps)] (rowsOf ps) := by
 have HR := Aside0.mk hr
 have HC := Aside0.mk hc
 have HV := Aside0.mk hv
 have HM := Aside0.mk hm
 have HMG := Aside0.mk hmg
 have HEX := Aside0.mk hex
 have HN := Aside0.mk hn
 have HA := Aside0.mk hA
 have HVV := Aside0.mk hv.valid
 have HVL := Aside0.mk (show pyramid_validLevels.f (n : Int) = some true by unfold pyramid_validLevels.f; rw [if_pos (by omega), decide_eq_true (by omega)])
 have HDL0 := Aside0.mk (show (D.length : Int) ≤ 1048576 by rw [hv.2.2.2]; exact hv.2.2.1)
 obtain ⟨m, hm1⟩ : ∃ m : Nat, m = 3 * n + 1 := ⟨_, rfl⟩
 have HCT := Aside0.mk (show pyramid_Count.f (n : Int) = some (m : Int) by unfold pyramid_Count.f; rw [HVL.out]; show some (wrap64 (wrap64 (3 * (n : Int)) + 1)) = some (m : Int); rw [show wrap64 (wrap64 (3 * (n : Int)) + 1) = (m : Int) by unfold wrap64; omega])
 have HLB := Aside0.mk hA.len
 have HMM := Aside0.mk (And.intro hm1 (show m ≤ 16 by omega))
 have b0 : decide (mg = 0) = false := decide_eq_false hmg
 have b1 : (mg == 0) = false := beq_eq_false_iff_ne.mpr hmg
 clear hm1
 clear hr hc hv hm hmg hex hn hA
 have K00 := Aside0.mk (Hold.nil w)
 go_enter Try.func9, Try.ntmps9
 go_upto_region 8 with (first
  | ((with_reducible refine gate_dst (N := 3) rfl ?_); refine bT (N := 3) (#[.int .i64 x0, .int .i64 y0, .int .i64 x1, .int .i64 y1, .slice A D.length c]) 26 ?_; intro g3 hg W3 hbox hb; have K := Aside0.mk (K00.out.box (Nat.le_refl _) hg hbox hb trivial); clear hg hbox hb K00)
  | ((with_reducible refine gate_dst (N := 14) rfl ?_); refine load_ev rfl 26 (.tmp 3) rfl rfl (K.out.get 0 rfl) Try.underlying26 rfl ?_)
  | (go_at_call 25; (with_reducible refine (plane_Valid.calls x0 y0 x1 y1 A c D true _ (Kd.C_below HR.out K.out.below) HC.out HVV.out).mono ?_); rintro _ w25 ⟨rfl, b⟩; replace K := Aside0.mk (K.out.call (below_size K.out.below) b); clear b)
  | (go_at_call 26; (with_reducible refine (lift_Margin.calls km kk mg _ HM.out).mono ?_); rintro _ w26 ⟨rfl, b⟩; replace K := Aside0.mk (K.out.call (below_size K.out.below) b.below); clear b)
  | (go_at_call 27; (with_reducible refine (pyramid_validLevels.calls (n : Int) true _ HVL.out).mono ?_); rintro _ w27 ⟨rfl, b⟩; replace K := Aside0.mk (K.out.call (below_size K.out.below) b.below); clear b; have p4 : w27.cell? ⟨g3, 4, none⟩ = some (.slice A D.length c) := K.out.cell 0 rfl 4 rfl)
  | ((try (refine gate_guard (by rfl) ?_; dsimp only)); go_at_call 28; (with_reducible refine (pyramid_exceeds.calls ke A c D 1048576 false _ (Kd.C_below HR.out K.out.below) HC.out HEX.out).mono ?_); rintro _ w28 ⟨rfl, b⟩; replace K := Aside0.mk (K.out.call (below_size K.out.below) b.below); clear b p4)
  | (go_at_call 29; (with_reducible refine (pyramid_Count.calls (n : Int) (m : Int) _ HCT.out).mono ?_); rintro _ w29 ⟨rfl, b⟩; replace K := Aside0.mk (K.out.call (below_size K.out.below) b.below); clear b)
  | ((with_reducible refine gate_dst (N := 30) rfl ?_); refine make_planes_ev rfl (N := 30) rfl (.tmp 29) (.tmp 29) rfl m rfl rfl (by have := HMM.out; omega) ?_; intro gS hg w30 hbox hb; replace K := Aside0.mk (K.out.box (below_size K.out.below) hg hbox hb trivial); clear hg hbox hb))
 clear b0 b1 HVV HVL HCT HM HMG HEX HV
 have HDL := Aside0.mk (show D.length ≤ 1048576 by have := HDL0.out; omega)
 go_cut [9] (fun v9 wc => ∃ (g9 : Nat) (A9 : Option Addr) (d9 : Nat), v9 = .pointer (some ⟨g9, 0, none⟩) ∧ Aside0 (Hold w.heap.size w wc [(g9, 26, #[.int .i64 x0, .int .i64 y0, .int .i64 x1, .int .i64 y1, .slice A9 D.length d9]), (gS, 26, cellsOf (List.replicate m zeroPl)), (g3, 26, #[.int .i64 x0, .int .i64 y0, .int .i64 x1, .int .i64 y1, .slice A D.length c])] [(.slice A9 D.length d9, D)]))
 case first =>
  replace K := Aside0.mk (K.out.drew)
  refine start_ (n := 8) (S := fun w' => w'.heap[g3]? = some (.cells #[.int .i64 x0, .int .i64 y0, .int .i64 x1, .int .i64 y1, .slice A D.length c] 26 (0, 0))) (ds := [7]) #[false, false, false, false, false, false, false, false] (by kernel_rfl) rfl rfl (K.out.get 1 rfl) (fun hHeld0 => ?_)
  generalize hw2 : w30.drew = w2 at *
  clear hw2
  have hHeld := Aside0.mk hHeld0
  clear hHeld0
  refine pT (i := 0) (N := some 31) ?_
  refine take_ (i := 1) (N := some 32) (v := .agg #[.int .i64 x0, .int .i64 y0, .int .i64 x1, .int .i64 y1]) (a' := ?_) #[true, true, false, false, false, false, false, false] rfl rfl (by kernel_rfl) (fun _ _ _ h => h) (load_mid_yields (i := 0) (cs := #[.int .i64 x0, .int .i64 y0, .int .i64 x1, .int .i64 y1]) (by rfl) 23 (.tmp 31) rfl rfl (fun _ h => h) (fun j v hj => by rcases j with _ | _ | _ | _ | j <;> first | exact hj | (simp at hj)) Try.underlying23 rfl rfl) hHeld.out ?_ ?_
  rotate_left
  ·simp only [Act.put, List.setIfInBounds_toArray, List.set_cons_zero, List.set_cons_succ, i64_w, i32_w]
   rfl
  refine pT (i := 2) (N := some 33) ?_
  refine take_ (i := 3) (N := some 34) (v := ?_) (a' := ?_) #[true, true, true, true, false, false, false, false] rfl rfl (by kernel_rfl) (fun _ _ _ h => h) (Or.inl ⟨by rfl, ?_⟩) hHeld.out ?_ ?_
  rotate_left
  ·rintro w' s0
   have s4 : w'.cell? ⟨g3, 4, none⟩ = some (.slice A D.length c) := (blk_cell s0 4).trans rfl
   go_simp
   with_reducible rfl
  rotate_left
  ·simp only [Act.put, List.setIfInBounds_toArray, List.set_cons_zero, List.set_cons_succ, i64_w, i32_w]
   rfl
  refine two_ (i := 4) (j := 6) (Ni := some 35) (Nj := some 9) #[true, true, true, true, true, false, false, false] #[true, true, true, true, false, false, true, false] rfl rfl rfl rfl (by kernel_rfl) (by decide) (by decide) (fun KC hK => ?_) (fun KC hK => ?_)
  ·skip
   refine Kd.R_append_rows_step (Kd.int .i64) (w0 := w2) w2.heap.size (by rfl) (.const (.slice none 0 0)) (.tmp 34) 24 3 (.int .i64 0) 8 rfl Try.underlying24 info3 rfl (by decide) (by omega) (.slice none 0 0) [] D A D.length c (fun _ => True) (fun _ => False) rfl rfl (Kd.R_nil _ _ _ _ _) (Kd.C_below HR.out K.out.below) (fun _ _ h => h) (fun _ h => h.elim) (fun _ _ => trivial) (Below.refl _ _) (Nat.le_refl _) (by have := HDL.out; simp; omega) ?_
   intro v0 w5 ho hb hg hat
   rw [List.nil_append] at ho
   obtain ⟨A9, d9, rfl⟩ := Kd.R_slice ho
   replace K := Aside0.mk (K.out.add (below_size K.out.below) ho hb)
   clear ho hb hg hat hHeld
   refine hK.out _ _ (K.out.get 1 rfl) (fun hHeld0 => ?_)
   have hHeld := Aside0.mk hHeld0
   clear hHeld0
   clear hK KC
   refine nT ?_
   refine pT (i := 5) (N := some 36) ?_
   refine one_ (i := 6) (N := some 9) #[true, true, true, true, true, true, true, false] rfl rfl (by kernel_rfl) (by decide) (fun KC hK => ?_)
   refine box_step ?hg (N := 9) ?hd (cs := #[.int .i64 0, .int .i64 0, .int .i64 0, .int .i64 0, .slice none 0 0]) (t := 26) ?hr ?_
   case hd => rfl
   case hg => rfl
   case hr => first | (go_simp; done) | (go_simp; rfl)
   intro g9 hg w4 hbox hb
   replace K := Aside0.mk (K.out.box (below_size K.out.below) hg hbox hb trivial)
   clear hg hbox hb hHeld
   refine hK.out _ _ (K.out.get 2 rfl) (fun hHeld0 => ?_)
   have hHeld := Aside0.mk hHeld0
   clear hHeld0
   clear hK KC
   refine nT ?_
   refine last_ (i := 7) (N := none) #[true, true, true, true, true, true, true, true] rfl rfl (by kernel_rfl) (by decide) (fun KC hK => ?_)
   refine store_step (cs := #[.int .i64 x0, .int .i64 y0, .int .i64 x1, .int .i64 y1, .slice A9 D.length d9]) (by rfl) rfl 26 (.tmp 9) (.tmp 36) rfl rfl (by kernel_rfl) (K.out.get 0 rfl) rfl rfl (by first | (kernel_rfl) | (simp [Value.oneCell'])) ?_
   intro WS hs
   refine hK.out _ _ ?_
   replace K := Aside0.mk (K.out.stored 0 rfl hs)
   clear hK KC hs hHeld
   refine done_ (by kernel_rfl) ?_
   go_wp2
   go_meet
   case rel => exact ⟨_, _, _, rfl, ⟨K.out⟩⟩
  ·skip
   refine box_step ?hg (N := 9) ?hd (cs := #[.int .i64 0, .int .i64 0, .int .i64 0, .int .i64 0, .slice none 0 0]) (t := 26) ?hr ?_
   case hd => rfl
   case hg => rfl
   case hr => first | (go_simp; done) | (go_simp; rfl)
   intro g9 hg w4 hbox hb
   replace K := Aside0.mk (K.out.box (below_size K.out.below) hg hbox hb trivial)
   clear hg hbox hb hHeld
   refine hK.out _ _ (K.out.get 2 rfl) (fun hHeld0 => ?_)
   have hHeld := Aside0.mk hHeld0
   clear hHeld0
   clear hK KC
   refine nT ?_
   refine one_ (i := 4) (N := some 35) #[true, true, true, true, true, false, true, false] rfl rfl (by kernel_rfl) (by decide) (fun KC hK => ?_)
   refine Kd.R_append_rows_step (Kd.int .i64) (w0 := w4) w4.heap.size (by rfl) (.const (.slice none 0 0)) (.tmp 34) 24 3 (.int .i64 0) 8 rfl Try.underlying24 info3 rfl (by decide) (by omega) (.slice none 0 0) [] D A D.length c (fun _ => True) (fun _ => False) rfl rfl (Kd.R_nil _ _ _ _ _) (Kd.C_below HR.out K.out.below) (fun _ _ h => h) (fun _ h => h.elim) (fun _ _ => trivial) (Below.refl _ _) (Nat.le_refl _) (by have := HDL.out; simp; omega) ?_
   intro v0 w5 ho hb hg hat
   rw [List.nil_append] at ho
   obtain ⟨A9, d9, rfl⟩ := Kd.R_slice ho
   replace K := Aside0.mk (K.out.add (below_size K.out.below) ho hb)
   clear ho hb hg hat hHeld
   refine hK.out _ _ (K.out.get 2 rfl) (fun hHeld0 => ?_)
   have hHeld := Aside0.mk hHeld0
   clear hHeld0
   clear hK KC
   refine nT ?_
   refine pT (i := 5) (N := some 36) ?_
   refine last_ (i := 7) (N := none) #[true, true, true, true, true, true, true, true] rfl rfl (by kernel_rfl) (by decide) (fun KC hK => ?_)
   refine store_step (cs := #[.int .i64 x0, .int .i64 y0, .int .i64 x1, .int .i64 y1, .slice A9 D.length d9]) (by rfl) rfl 26 (.tmp 9) (.tmp 36) rfl rfl (by kernel_rfl) (K.out.get 0 rfl) rfl rfl (by first | (kernel_rfl) | (simp [Value.oneCell'])) ?_
   intro WS hs
   refine hK.out _ _ ?_
   replace K := Aside0.mk (K.out.stored 0 rfl hs)
   clear hK KC hs hHeld
   refine done_ (by kernel_rfl) ?_
   go_wp2
   go_meet
   case rel => exact ⟨_, _, _, rfl, ⟨K.out⟩⟩
 case rest =>
 obtain ⟨g9, A9, d9, rfl, K⟩ := hcut
 clear HDL HDL0 HR HC
 go_wp2
 go_loopg [10] n (fun kq v10 w' => ∃ (u : Pl) (A9 : Option Addr) (d9 : Nat) (bs' : List Pl) (done : List (Value × Pl)), v10 = .int .i64 (kq : Int) ∧ Aside0 (Ana kk kq u bs') ∧ Aside0 (bs = bs' ++ done.map (·.2)) ∧ Aside0 (Hold w.heap.size w w' [(g9, 26, #[.int .i64 u.x0, .int .i64 u.y0, .int .i64 u.x1, .int .i64 u.y1, .slice A9 u.D.length d9]), (gS, 26, cellsOf (List.replicate (3 * kq + 1) zeroPl ++ done)), (g3, 26, #[.int .i64 x0, .int .i64 y0, .int .i64 x1, .int .i64 y1, .slice A D.length c])] ((.slice A9 u.D.length d9, u.D) :: rowsOf done)))
 case atStart => exact ⟨⟨x0, y0, x1, y1, D⟩, A9, d9, bs, [], rfl, HA, ⟨by simp⟩, ⟨by rw [List.append_nil, ← HMM.out.1]; exact K.out⟩⟩
 case round =>
 clear K HA
 obtain ⟨u, A9, d9, bs', done, rfl, HA, HBS, K⟩ := hrel
 have hlen : m = 3 * gk + 1 + done.length := by
  have h1 := HA.out.len
  have h2 := congrArg List.length HBS.out
  rw [List.length_append, List.length_map, h1, HLB.out] at h2
  have := HMM.out.1
  omega
 cases gk with
 | zero =>
  have hb0 : decide ((0 : Int) < ((0 : Nat) : Int)) = false := rfl
  have hb1 : (0 < m) = True := eq_true (by omega)
  have hb2 : ((0 : Int) < (m : Int)) = True := eq_true (by omega)
  have HL1 := Aside0.mk hlen
  clear hlen
  go_wp2_with (first
   | ((with_reducible refine gate_dst (N := 68) rfl ?_); refine load_ev rfl 26 (.tmp 9) rfl rfl (K.out.get 0 rfl) Try.underlying26 rfl ?_)
   | ((with_reducible refine gate_store (t := 26) (p := 69) (v := .tmp 68) rfl ?_); refine store_mid_ev (i := 0) (cs := #[.int .i64 u.x0, .int .i64 u.y0, .int .i64 u.x1, .int .i64 u.y1, .slice A9 u.D.length d9]) rfl rfl 26 (.tmp 69) (.tmp 68) rfl rfl rfl (K.out.get 1 rfl) (by rw [cellsOf_size, List.length_append, List.length_replicate]; show 0 + 5 ≤ _; omega) rfl (by first | (kernel_rfl) | (simp [Value.oneCell'])) (new := cellsOf ((.slice A9 u.D.length d9, u) :: done)) (cellsOf_set (l := List.replicate 1 zeroPl ++ done) (j := 0) (q := (.slice A9 u.D.length d9, u)) (by simp)) ?_; intro wS hs; replace K := Aside0.mk (K.out.stored 1 rfl hs); clear hs))
  go_ret2
  refine ⟨gS, (.slice A9 u.D.length d9, u) :: done, ?_, ?_, ?_⟩
  ·rw [HBS.out]
   obtain ⟨h⟩ := HA
   cases h
   rfl
  ·have e : ((.slice A9 u.D.length d9, u) :: done : List (Value × Pl)).length = m := by rw [HL1.out, List.length_cons]; omega
   rw [e]
   rfl
  ·have HK := K.out
   exact ⟨⟨fun i b hi => HK.bks.blk (i + 1) b (by rcases i with _ | i; exact hi; simp at hi), fun i j b c hij hi hj => by rcases i with _ | i; (rcases j with _ | j; exact absurd rfl hij; simp at hj); simp at hi, fun i b hi => HK.bks.ge (i + 1) b (by rcases i with _ | i; exact hi; simp at hi), HK.below⟩, fun i j b p hi hj => HK.off (i + 1) j b p (by rcases i with _ | i; exact hi; simp at hi) hj, HK.row, HK.apart⟩
 | succ kq =>
  obtain ⟨z, hz⟩ : ∃ z : Int, z = ((kq + 1 : Nat) : Int) := ⟨_, rfl⟩
  rw [← hz]
  have HZ := Aside0.mk hz
  have hb0 : decide (0 < z) = true := decide_eq_true (by omega)
  have hz1 : wrap64 (z - 1) = (kq : Int) := by have := HMM.out; unfold wrap64; omega
  have HJ := Aside0.mk (show wrap64 (wrap64 (wrap64 (3 * z) - 3) + 1) = ((3 * kq + 1 : Nat) : Int) ∧ wrap64 (wrap64 (wrap64 (3 * z) - 3) + 2) = ((3 * kq + 2 : Nat) : Int) ∧ wrap64 (wrap64 (wrap64 (3 * z) - 3) + 3) = ((3 * kq + 3 : Nat) : Int) by have := HMM.out; unfold wrap64; omega)
  have HMQ := Aside0.mk hlen
  clear hz hlen
  have hA := HA.out
  clear HA
  cases hA with
  | succ _ X0 Y0 X1 Y1 D2 a0 a1 c0 c1 e0 e1 f0 f1 G0 G1 G2 G3 bs2 hsp hb2 =>
  have HSP := Aside0.mk hsp
  have HB2 := Aside0.mk hb2
  clear hsp hb2
  dsimp only at K
  go_wp2_with (first
   | ((with_reducible refine gate_dst (N := 43) rfl ?_); refine load_ev rfl 26 (.tmp 9) rfl rfl (K.out.get 0 rfl) Try.underlying26 rfl ?_)
   | (go_at_call 30; (with_reducible refine (dwt_Split.to kk X0 Y0 X1 Y1 A9 d9 D2 G0 G1 G2 G3 a0 a1 c0 c1 e0 e1 f0 f1 _ (K.out.readAt 0 rfl).2.2 (K.out.readAt 0 rfl).2.1 HSP.out).mono ?_); rintro _ w30a ⟨v0, v1, v2, v3, rfl, hH⟩; replace K := Aside0.mk (K.out.join (below_size K.out.below) hH); obtain ⟨B0, b0, rfl⟩ := Kd.R_slice (hH.rowAt 0 rfl); obtain ⟨B1, b1, rfl⟩ := Kd.R_slice (hH.rowAt 1 rfl); obtain ⟨B2, b2, rfl⟩ := Kd.R_slice (hH.rowAt 2 rfl); obtain ⟨B3, b3, rfl⟩ := Kd.R_slice (hH.rowAt 3 rfl); clear hH)
   | ((with_reducible refine gate_dst (N := 11) rfl ?_); refine bT (N := 11) (#[.int .i64 0, .int .i64 0, .int .i64 0, .int .i64 0, .slice none 0 0, .int .i64 0, .int .i64 0, .int .i64 0, .int .i64 0, .slice none 0 0, .int .i64 0, .int .i64 0, .int .i64 0, .int .i64 0, .slice none 0 0, .int .i64 0, .int .i64 0, .int .i64 0, .int .i64 0, .slice none 0 0]) 59 ?_; intro g11 hg W11 hbox hb; replace K := Aside0.mk (K.out.box (below_size K.out.below) hg hbox hb trivial); clear hg hbox hb)
   | ((with_reducible refine gate_store (t := 59) (p := 11) (v := .tmp 46) rfl ?_); refine store_ev rfl rfl 59 (.tmp 11) (.tmp 46) rfl rfl rfl (K.out.get 0 rfl) rfl rfl (by first | (kernel_rfl) | (simp [Value.oneCell'])) ?_; intro w11s hs; replace K := Aside0.mk (K.out.stored 0 rfl hs); clear hs))
  clear hb0
  go_loopg [13] 3 (fun kr v13 w' => (v13 = .int .i64 1 ∧ kr + 1 = 4 ∧ Aside0 (Hold w.heap.size w w' ([(g11, 59, #[.int .i64 a0, .int .i64 e0, .int .i64 c0, .int .i64 f0, .slice B0 G0.length b0, .int .i64 a1, .int .i64 e0, .int .i64 c1, .int .i64 f0, .slice B1 G1.length b1, .int .i64 a0, .int .i64 e1, .int .i64 c0, .int .i64 f1, .slice B2 G2.length b2, .int .i64 a1, .int .i64 e1, .int .i64 c1, .int .i64 f1, .slice B3 G3.length b3]), (g9, 26, #[.int .i64 X0, .int .i64 Y0, .int .i64 X1, .int .i64 Y1, .slice A9 D2.length d9]), (gS, 26, cellsOf (List.replicate (3 * (kq + 1) + 1) zeroPl ++ done)), (g3, 26, #[.int .i64 x0, .int .i64 y0, .int .i64 x1, .int .i64 y1, .slice A D.length c])]) ([(.slice B0 G0.length b0, G0), (.slice B1 G1.length b1, G1), (.slice B2 G2.length b2, G2), (.slice B3 G3.length b3, G3)] ++ ((.slice A9 D2.length d9, D2) :: rowsOf done)))) ∨ (v13 = .int .i64 2 ∧ kr + 2 = 4 ∧ Aside0 (Hold w.heap.size w w' ([(g11, 59, #[.int .i64 a0, .int .i64 e0, .int .i64 c0, .int .i64 f0, .slice B0 G0.length b0, .int .i64 a1, .int .i64 e0, .int .i64 c1, .int .i64 f0, .slice B1 G1.length b1, .int .i64 a0, .int .i64 e1, .int .i64 c0, .int .i64 f1, .slice B2 G2.length b2, .int .i64 a1, .int .i64 e1, .int .i64 c1, .int .i64 f1, .slice B3 G3.length b3]), (g9, 26, #[.int .i64 X0, .int .i64 Y0, .int .i64 X1, .int .i64 Y1, .slice A9 D2.length d9]), (gS, 26, cellsOf ((List.replicate (3 * (kq + 1) + 1) zeroPl ++ done).set (3 * kq + 1) (.slice B1 G1.length b1, ⟨a1, e0, c1, f0, G1⟩))), (g3, 26, #[.int .i64 x0, .int .i64 y0, .int .i64 x1, .int .i64 y1, .slice A D.length c])]) ([(.slice B0 G0.length b0, G0), (.slice B1 G1.length b1, G1), (.slice B2 G2.length b2, G2), (.slice B3 G3.length b3, G3)] ++ ((.slice A9 D2.length d9, D2) :: rowsOf done)))) ∨ (v13 = .int .i64 3 ∧ kr + 3 = 4 ∧ Aside0 (Hold w.heap.size w w' ([(g11, 59, #[.int .i64 a0, .int .i64 e0, .int .i64 c0, .int .i64 f0, .slice B0 G0.length b0, .int .i64 a1, .int .i64 e0, .int .i64 c1, .int .i64 f0, .slice B1 G1.length b1, .int .i64 a0, .int .i64 e1, .int .i64 c0, .int .i64 f1, .slice B2 G2.length b2, .int .i64 a1, .int .i64 e1, .int .i64 c1, .int .i64 f1, .slice B3 G3.length b3]), (g9, 26, #[.int .i64 X0, .int .i64 Y0, .int .i64 X1, .int .i64 Y1, .slice A9 D2.length d9]), (gS, 26, cellsOf (((List.replicate (3 * (kq + 1) + 1) zeroPl ++ done).set (3 * kq + 1) (.slice B1 G1.length b1, ⟨a1, e0, c1, f0, G1⟩)).set (3 * kq + 2) (.slice B2 G2.length b2, ⟨a0, e1, c0, f1, G2⟩))), (g3, 26, #[.int .i64 x0, .int .i64 y0, .int .i64 x1, .int .i64 y1, .slice A D.length c])]) ([(.slice B0 G0.length b0, G0), (.slice B1 G1.length b1, G1), (.slice B2 G2.length b2, G2), (.slice B3 G3.length b3, G3)] ++ ((.slice A9 D2.length d9, D2) :: rowsOf done)))) ∨ (v13 = .int .i64 4 ∧ kr + 4 = 4 ∧ Aside0 (Hold w.heap.size w w' ([(g11, 59, #[.int .i64 a0, .int .i64 e0, .int .i64 c0, .int .i64 f0, .slice B0 G0.length b0, .int .i64 a1, .int .i64 e0, .int .i64 c1, .int .i64 f0, .slice B1 G1.length b1, .int .i64 a0, .int .i64 e1, .int .i64 c0, .int .i64 f1, .slice B2 G2.length b2, .int .i64 a1, .int .i64 e1, .int .i64 c1, .int .i64 f1, .slice B3 G3.length b3]), (g9, 26, #[.int .i64 X0, .int .i64 Y0, .int .i64 X1, .int .i64 Y1, .slice A9 D2.length d9]), (gS, 26, cellsOf ((((List.replicate (3 * (kq + 1) + 1) zeroPl ++ done).set (3 * kq + 1) (.slice B1 G1.length b1, ⟨a1, e0, c1, f0, G1⟩)).set (3 * kq + 2) (.slice B2 G2.length b2, ⟨a0, e1, c0, f1, G2⟩)).set (3 * kq + 3) (.slice B3 G3.length b3, ⟨a1, e1, c1, f1, G3⟩))), (g3, 26, #[.int .i64 x0, .int .i64 y0, .int .i64 x1, .int .i64 y1, .slice A D.length c])]) ([(.slice B0 G0.length b0, G0), (.slice B1 G1.length b1, G1), (.slice B2 G2.length b2, G2), (.slice B3 G3.length b3, G3)] ++ ((.slice A9 D2.length d9, D2) :: rowsOf done)))))
  case atStart => exact .inl ⟨rfl, rfl, ⟨K.out⟩⟩
  case round =>
  clear K
  have HLEN1 := Aside0.mk (show 3 * kq + 1 < (List.replicate (3 * (kq + 1) + 1) zeroPl ++ done).length by simp <;> omega)
  have HLEN2 := Aside0.mk (show 3 * kq + 2 < ((List.replicate (3 * (kq + 1) + 1) zeroPl ++ done).set (3 * kq + 1) (.slice B1 G1.length b1, ⟨a1, e0, c1, f0, G1⟩)).length by simp <;> omega)
  have HLEN3 := Aside0.mk (show 3 * kq + 3 < (((List.replicate (3 * (kq + 1) + 1) zeroPl ++ done).set (3 * kq + 1) (.slice B1 G1.length b1, ⟨a1, e0, c1, f0, G1⟩)).set (3 * kq + 2) (.slice B2 G2.length b2, ⟨a0, e1, c0, f1, G2⟩)).length by simp <;> omega)
  rcases hrel with ⟨rfl, hn4, K⟩ | ⟨rfl, hn4, K⟩ | ⟨rfl, hn4, K⟩ | ⟨rfl, hn4, K⟩
  ·have hj := HJ.out.1
   obtain ⟨j, hj1⟩ : ∃ j : Nat, j = 3 * kq + 1 := ⟨_, rfl⟩
   have hj0 : wrap64 (wrap64 (wrap64 (3 * z) - 3) + 1) = (j : Int) := by rw [hj, hj1]
   have hjl : ((j : Int) < (m : Int)) = True := eq_true (by have := HMQ.out; omega)
   have hjm : (j < m) = True := eq_true (by have := HMQ.out; omega)
   have HJJ := Aside0.mk hj1
   clear hj hj1
   have hb0 : decide ((1 : Int) < 4) = true := rfl
   go_wp2_with (first
    | ((with_reducible refine gate_dst (N := 63) rfl ?_); refine load_mid_ev (i := 5) (cs := #[.int .i64 a1, .int .i64 e0, .int .i64 c1, .int .i64 f0, .slice B1 G1.length b1]) rfl 26 (.tmp 62) rfl rfl (K.out.get 0 rfl) (fun j v hj => by rcases j with _ | _ | _ | _ | _ | j <;> first | exact hj | (simp at hj)) Try.underlying26 rfl rfl ?_)
    | ((with_reducible refine gate_store (t := 26) (p := 64) (v := .tmp 63) rfl ?_); refine store_mid_ev (i := j * 5) (cs := #[.int .i64 a1, .int .i64 e0, .int .i64 c1, .int .i64 f0, .slice B1 G1.length b1]) rfl rfl 26 (.tmp 64) (.tmp 63) rfl rfl rfl (K.out.get 2 rfl) (by rw [cellsOf_size]; show j * 5 + 5 ≤ _; have := HLEN1.out; have := HJJ.out; omega) rfl (by first | (kernel_rfl) | (simp [Value.oneCell'])) (new := cellsOf ((List.replicate (3 * (kq + 1) + 1) zeroPl ++ done).set (3 * kq + 1) (.slice B1 G1.length b1, ⟨a1, e0, c1, f0, G1⟩))) (by rw [show j * 5 = 5 * (3 * kq + 1) by have := HJJ.out; omega]; exact cellsOf_set (q := (.slice B1 G1.length b1, ⟨a1, e0, c1, f0, G1⟩)) (by have := HLEN1.out; omega)) ?_; intro wS hs; replace K := Aside0.mk (K.out.stored 2 rfl hs); clear hs))
   go_roundg (2)
   case measure => omega
   case rel => exact .inr (.inl ⟨rfl, by omega, ⟨K.out⟩⟩)
  ·have hj := HJ.out.2.1
   obtain ⟨j, hj1⟩ : ∃ j : Nat, j = 3 * kq + 2 := ⟨_, rfl⟩
   have hj0 : wrap64 (wrap64 (wrap64 (3 * z) - 3) + 2) = (j : Int) := by rw [hj, hj1]
   have hjl : ((j : Int) < (m : Int)) = True := eq_true (by have := HMQ.out; omega)
   have hjm : (j < m) = True := eq_true (by have := HMQ.out; omega)
   have HJJ := Aside0.mk hj1
   clear hj hj1
   have hb0 : decide ((2 : Int) < 4) = true := rfl
   go_wp2_with (first
    | ((with_reducible refine gate_dst (N := 63) rfl ?_); refine load_mid_ev (i := 10) (cs := #[.int .i64 a0, .int .i64 e1, .int .i64 c0, .int .i64 f1, .slice B2 G2.length b2]) rfl 26 (.tmp 62) rfl rfl (K.out.get 0 rfl) (fun j v hj => by rcases j with _ | _ | _ | _ | _ | j <;> first | exact hj | (simp at hj)) Try.underlying26 rfl rfl ?_)
    | ((with_reducible refine gate_store (t := 26) (p := 64) (v := .tmp 63) rfl ?_); refine store_mid_ev (i := j * 5) (cs := #[.int .i64 a0, .int .i64 e1, .int .i64 c0, .int .i64 f1, .slice B2 G2.length b2]) rfl rfl 26 (.tmp 64) (.tmp 63) rfl rfl rfl (K.out.get 2 rfl) (by rw [cellsOf_size]; show j * 5 + 5 ≤ _; have := HLEN2.out; have := HJJ.out; omega) rfl (by first | (kernel_rfl) | (simp [Value.oneCell'])) (new := cellsOf (((List.replicate (3 * (kq + 1) + 1) zeroPl ++ done).set (3 * kq + 1) (.slice B1 G1.length b1, ⟨a1, e0, c1, f0, G1⟩)).set (3 * kq + 2) (.slice B2 G2.length b2, ⟨a0, e1, c0, f1, G2⟩))) (by rw [show j * 5 = 5 * (3 * kq + 2) by have := HJJ.out; omega]; exact cellsOf_set (q := (.slice B2 G2.length b2, ⟨a0, e1, c0, f1, G2⟩)) (by have := HLEN2.out; omega)) ?_; intro wS hs; replace K := Aside0.mk (K.out.stored 2 rfl hs); clear hs))
   go_roundg (1)
   case measure => omega
   case rel => exact .inr (.inr (.inl ⟨rfl, by omega, ⟨K.out⟩⟩))
  ·have hj := HJ.out.2.2
   obtain ⟨j, hj1⟩ : ∃ j : Nat, j = 3 * kq + 3 := ⟨_, rfl⟩
   have hj0 : wrap64 (wrap64 (wrap64 (3 * z) - 3) + 3) = (j : Int) := by rw [hj, hj1]
   have hjl : ((j : Int) < (m : Int)) = True := eq_true (by have := HMQ.out; omega)
   have hjm : (j < m) = True := eq_true (by have := HMQ.out; omega)
   have HJJ := Aside0.mk hj1
   clear hj hj1
   have hb0 : decide ((3 : Int) < 4) = true := rfl
   go_wp2_with (first
    | ((with_reducible refine gate_dst (N := 63) rfl ?_); refine load_mid_ev (i := 15) (cs := #[.int .i64 a1, .int .i64 e1, .int .i64 c1, .int .i64 f1, .slice B3 G3.length b3]) rfl 26 (.tmp 62) rfl rfl (K.out.get 0 rfl) (fun j v hj => by rcases j with _ | _ | _ | _ | _ | j <;> first | exact hj | (simp at hj)) Try.underlying26 rfl rfl ?_)
    | ((with_reducible refine gate_store (t := 26) (p := 64) (v := .tmp 63) rfl ?_); refine store_mid_ev (i := j * 5) (cs := #[.int .i64 a1, .int .i64 e1, .int .i64 c1, .int .i64 f1, .slice B3 G3.length b3]) rfl rfl 26 (.tmp 64) (.tmp 63) rfl rfl rfl (K.out.get 2 rfl) (by rw [cellsOf_size]; show j * 5 + 5 ≤ _; have := HLEN3.out; have := HJJ.out; omega) rfl (by first | (kernel_rfl) | (simp [Value.oneCell'])) (new := cellsOf ((((List.replicate (3 * (kq + 1) + 1) zeroPl ++ done).set (3 * kq + 1) (.slice B1 G1.length b1, ⟨a1, e0, c1, f0, G1⟩)).set (3 * kq + 2) (.slice B2 G2.length b2, ⟨a0, e1, c0, f1, G2⟩)).set (3 * kq + 3) (.slice B3 G3.length b3, ⟨a1, e1, c1, f1, G3⟩))) (by rw [show j * 5 = 5 * (3 * kq + 3) by have := HJJ.out; omega]; exact cellsOf_set (q := (.slice B3 G3.length b3, ⟨a1, e1, c1, f1, G3⟩)) (by have := HLEN3.out; omega)) ?_; intro wS hs; replace K := Aside0.mk (K.out.stored 2 rfl hs); clear hs))
   go_roundg (0)
   case measure => omega
   case rel => exact .inr (.inr (.inr (⟨rfl, by omega, ⟨K.out⟩⟩)))
  ·have hb0 : decide ((4 : Int) < 4) = false := rfl
   go_wp2_with (first
    | ((with_reducible refine gate_dst (N := 66) rfl ?_); refine load_mid_ev (i := 0) (cs := #[.int .i64 a0, .int .i64 e0, .int .i64 c0, .int .i64 f0, .slice B0 G0.length b0]) rfl 26 (.tmp 65) rfl rfl (K.out.get 0 rfl) (fun j v hj => by rcases j with _ | _ | _ | _ | _ | j <;> first | exact hj | (simp at hj)) Try.underlying26 rfl rfl ?_)
    | ((with_reducible refine gate_store (t := 26) (p := 9) (v := .tmp 66) rfl ?_); refine store_ev rfl rfl 26 (.tmp 9) (.tmp 66) rfl rfl rfl (K.out.get 1 rfl) rfl rfl (by first | (kernel_rfl) | (simp [Value.oneCell'])) ?_; intro w9s hs; replace K := Aside0.mk (K.out.stored 1 rfl hs); clear hs))
   go_roundg kq
   case measure => omega
   case rel =>
    refine ⟨⟨a0, e0, c0, f0, G0⟩, B0, b0, bs2, (.slice B1 G1.length b1, ⟨a1, e0, c1, f0, G1⟩) :: (.slice B2 G2.length b2, ⟨a0, e1, c0, f1, G2⟩) :: (.slice B3 G3.length b3, ⟨a1, e1, c1, f1, G3⟩) :: done, by rw [hz1], HB2, ⟨by rw [HBS.out]; simp⟩, ⟨?_⟩⟩
    have HK := (K.out.tl).erase 4
    rw [final_planes] at HK
    exact HK
section
variable {P : Program} {ops : Array Oper} {o : Oper} {a : Act} {t : Nat} {cs : List Value} {ty : TypeId} {d : TypeDesc} {g i : Nat}
theorem load_range_yields {S : World → Prop} (hw : Region.wanted o (yielded ops a.tmps) = true) (ty : TypeId) (x : Operand) (ho : o.op = .load ty x) (hx : a.eval x = .pointer (some ⟨g, i, none⟩)) (hS : ∀ w, S w → w.rangeAt g i cs) (hu : P.underlying ty = some d) (hd : d.isRow = true) (hi : (P.info? ty).map (·.size) = some cs.length) : YieldsIf P ops S o (.agg cs.toArray) a :=
 .inl ⟨hw, fun w hw' => by
  unfold execOp
  simp only [ho, hx, Sem.run_bind, run_loadAt_mid (P := P) w g i ty cs d (hS w hw') hu hd hi, Result.andThen_ok, Sem.run_pure]⟩
theorem load_range_ev {rest : List Oper} {Q : Exit → Act → World → Prop} {W : World} (hgd : o.guard = none) (ty : TypeId) (x : Operand) (ho : o.op = .load ty x) (hx : a.eval x = .pointer (some ⟨g, i, none⟩)) (hr : W.rangeAt g i cs) (hu : P.underlying ty = some d) (hd : d.isRow = true) (hi : (P.info? ty).map (·.size) = some cs.length)
  (h : wpList P ops Q rest (a.put o.dst (.agg cs.toArray)) W) : wpList P ops Q (o :: rest) a W :=
 wpList_plain hgd fun K hK => by
  unfold Oper.wp execOp
  simp only [ho, hx, Sem.run_bind, run_loadAt_mid (P := P) W g i ty cs d hr hu hd hi, Result.andThen_ok, Sem.run_pure]
  exact hK _ _ h
end
/-- A row of planes that came in. -/
structure Bds (w : World) (gb : Nat) (ps : List (Value × Pl)) : Prop where
 cells : ∀ (j : Nat) (p : Value × Pl), ps[j]? = some p → w.rangeAt gb (5 * j) (pcells p)
 data : ∀ (j : Nat) (p : Value × Pl), ps[j]? = some p → ∃ (A : Option Addr) (c : Nat), p.1 = .slice A p.2.D.length c ∧ p.2.D.length ≤ c ∧ Kd.C (Kd.int .i64) w A p.2.D.length p.2.D
theorem range_below {w W : World} {g i : Nat} {cs : List Value} (h : w.rangeAt g i cs) (hb : Below w.heap.size w W) : W.rangeAt g i cs := fun j v hj => by
 have h1 := h j v hj
 have h2 := World.block_lt_of_cell? w ⟨g, i + j, none⟩ h1
 have h3 := hb.block g h2
 unfold World.cell? at h1 ⊢
 rw [h3]
 exact h1
theorem Bds.below {w W : World} {gb : Nat} {ps : List (Value × Pl)} (h : Bds w gb ps) (hb : Below w.heap.size w W) : Bds W gb ps :=
 ⟨fun j p hj => range_below (h.cells j p hj) hb, fun j p hj => by
  obtain ⟨A, c, e, hc, hr⟩ := h.data j p hj
  exact ⟨A, c, e, hc, Kd.C_below hr hb⟩⟩
set_option maxHeartbeats 8000000 in
set_option maxRecDepth 100000 in
theorem pyramid_Syn1.good (kr q : Nat) (n z kk x0 y0 x1 y1 X0 Y0 X1 Y1 a0 a1 c0 c1 e0 e1 f0 f1 : Int) (A0 A1 A2 A3 : Option Addr) (d0 d1 d2 d3 : Nat) (D0 D1 D2 D3 G : List Int) (ps : List (Value × Pl)) (n0 gb N cN gP g10 gK gL gR gB : Nat) (w0 w : World)
  (hbd : Bds w0 gb ps) (hn : n0 = w0.heap.size) (hq : z = ((q + 1 : Nat) : Int) ∧ q ≤ 5) (hnn : 3 * q + 3 < N) (hp1 : ps[3 * q + 1]? = some (.slice A1 D1.length d1, ⟨a1, e0, c1, f0, D1⟩)) (hp2 : ps[3 * q + 2]? = some (.slice A2 D2.length d2, ⟨a0, e1, c0, f1, D2⟩)) (hp3 : ps[3 * q + 3]? = some (.slice A3 D3.length d3, ⟨a1, e1, c1, f1, D3⟩)) (hrs : pyramid_Resolution.f kr x0 y0 x1 y1 n z = some (X0, Y0, X1, Y1)) (hmt : MergeTo kk X0 Y0 X1 Y1 a0 a1 c0 c1 e0 e1 f0 f1 D0 D1 D2 D3 G) (hK : Hold n0 w0 w [(gP, 26, #[.int .i64 a0, .int .i64 e0, .int .i64 c0, .int .i64 f0, .slice A0 D0.length d0]), (g10, 26, #[.int .i64 0, .int .i64 0, .int .i64 0, .int .i64 0, .slice none 0 0]), (gK, 28, #[.int .i64 kk]), (gL, 3, #[.int .i64 n]), (gR, 23, #[.int .i64 x0, .int .i64 y0, .int .i64 x1, .int .i64 y1]), (gB, 32, #[.slice (some ⟨gb, 0, none⟩) N cN])] [(.slice A0 D0.length d0, D0)]) :
  Calls Try.prog 40 #[.int .i64 z, .pointer (some ⟨gP, 0, none⟩), .pointer (some ⟨gB, 0, none⟩), .pointer (some ⟨gR, 0, none⟩), .pointer (some ⟨gL, 0, none⟩), .pointer (some ⟨gK, 0, none⟩)] w fun e w' => e = .returned (.int .i64 0) ∧ ∃ (A : Option Addr) (d : Nat), Hold n0 w0 w' [(gP, 26, #[.int .i64 X0, .int .i64 Y0, .int .i64 X1, .int .i64 Y1, .slice A G.length d]), (g10, 26, #[.int .i64 0, .int .i64 0, .int .i64 0, .int .i64 0, .slice none 0 0]), (gK, 28, #[.int .i64 kk]), (gL, 3, #[.int .i64 n]), (gR, 23, #[.int .i64 x0, .int .i64 y0, .int .i64 x1, .int .i64 y1]), (gB, 32, #[.slice (some ⟨gb, 0, none⟩) N cN])] [(.slice A G.length d, G)] := by
 have HJ := Aside0.mk (show wrap64 (wrap64 (3 * z) - 2) = ((3 * q + 1 : Nat) : Int) ∧ wrap64 (wrap64 (3 * z) - 1) = ((3 * q + 2 : Nat) : Int) ∧ wrap64 (3 * z) = ((3 * q + 3 : Nat) : Int) by have := hq; unfold wrap64; omega)
 have HBD := Aside0.mk hbd
 have HN := Aside0.mk hn
 have HQ := Aside0.mk hq
 have HNN := Aside0.mk hnn
 have HP1 := Aside0.mk hp1
 have HP2 := Aside0.mk hp2
 have HP3 := Aside0.mk hp3
 have HRS := Aside0.mk hrs
 have HMT := Aside0.mk hmt
 have K := Aside0.mk hK
 have hj3 := HJ.out.2.2
 obtain ⟨j3, hk3⟩ : ∃ j : Nat, j = 3 * q + 3 := ⟨_, rfl⟩
 rw [← hk3] at hj3
 have hl3 : ((j3 : Int) < (N : Int)) = True := eq_true (by omega)
 have hm3 : (j3 < N) = True := eq_true (by omega)
 have HR3 := Aside0.mk (show w0.rangeAt gb (j3 * 5) (pcells (.slice A3 D3.length d3, ⟨a1, e1, c1, f1, D3⟩)) by rw [show j3 * 5 = 5 * (3 * q + 3) by omega]; exact hbd.cells _ _ hp3)
 have HC3 := Aside0.mk (show D3.length ≤ d3 ∧ Kd.C (Kd.int .i64) w0 A3 D3.length D3 by
  obtain ⟨A, c, e, hc, hr⟩ := hbd.data _ _ hp3
  injection e with e1 e2 e3
  rw [e1, e3]
  exact ⟨hc, hr⟩)
 clear hk3
 have hj1 := HJ.out.1
 obtain ⟨j1, hk1⟩ : ∃ j : Nat, j = 3 * q + 1 := ⟨_, rfl⟩
 rw [← hk1] at hj1
 rw [hj3] at hj1
 have hl1 : ((j1 : Int) < (N : Int)) = True := eq_true (by omega)
 have hm1 : (j1 < N) = True := eq_true (by omega)
 have HR1 := Aside0.mk (show w0.rangeAt gb (j1 * 5) (pcells (.slice A1 D1.length d1, ⟨a1, e0, c1, f0, D1⟩)) by rw [show j1 * 5 = 5 * (3 * q + 1) by omega]; exact hbd.cells _ _ hp1)
 have HC1 := Aside0.mk (show D1.length ≤ d1 ∧ Kd.C (Kd.int .i64) w0 A1 D1.length D1 by
  obtain ⟨A, c, e, hc, hr⟩ := hbd.data _ _ hp1
  injection e with e1 e2 e3
  rw [e1, e3]
  exact ⟨hc, hr⟩)
 clear hk1
 have hj2 := HJ.out.2.1
 obtain ⟨j2, hk2⟩ : ∃ j : Nat, j = 3 * q + 2 := ⟨_, rfl⟩
 rw [← hk2] at hj2
 rw [hj3] at hj2
 have hl2 : ((j2 : Int) < (N : Int)) = True := eq_true (by omega)
 have hm2 : (j2 < N) = True := eq_true (by omega)
 have HR2 := Aside0.mk (show w0.rangeAt gb (j2 * 5) (pcells (.slice A2 D2.length d2, ⟨a0, e1, c0, f1, D2⟩)) by rw [show j2 * 5 = 5 * (3 * q + 2) by omega]; exact hbd.cells _ _ hp2)
 have HC2 := Aside0.mk (show D2.length ≤ d2 ∧ Kd.C (Kd.int .i64) w0 A2 D2.length D2 by
  obtain ⟨A, c, e, hc, hr⟩ := hbd.data _ _ hp2
  injection e with e1 e2 e3
  rw [e1, e3]
  exact ⟨hc, hr⟩)
 clear hk2
 clear hbd hn hq hnn hp1 hp2 hp3 hrs hmt hK
 go_enter Try.func40, Try.ntmps40
 go_upto_region 1 with (fail)
 go_cut [8] (fun v8 wc => ∃ (g8 : Nat), v8 = .pointer (some ⟨g8, 0, none⟩) ∧ Aside0 (Hold n0 w0 wc [(g8, 59, #[.int .i64 a0, .int .i64 e0, .int .i64 c0, .int .i64 f0, .slice A0 D0.length d0, .int .i64 a1, .int .i64 e0, .int .i64 c1, .int .i64 f0, .slice A1 D1.length d1, .int .i64 a0, .int .i64 e1, .int .i64 c0, .int .i64 f1, .slice A2 D2.length d2, .int .i64 a1, .int .i64 e1, .int .i64 c1, .int .i64 f1, .slice A3 D3.length d3]), (gP, 26, #[.int .i64 a0, .int .i64 e0, .int .i64 c0, .int .i64 f0, .slice A0 D0.length d0]), (g10, 26, #[.int .i64 0, .int .i64 0, .int .i64 0, .int .i64 0, .slice none 0 0]), (gK, 28, #[.int .i64 kk]), (gL, 3, #[.int .i64 n]), (gR, 23, #[.int .i64 x0, .int .i64 y0, .int .i64 x1, .int .i64 y1]), (gB, 32, #[.slice (some ⟨gb, 0, none⟩) N cN])] [(.slice A0 D0.length d0, D0)]))
 case first =>
  replace K := Aside0.mk (K.out.drew)
  refine start_ (n := 21) (S := fun w' => w'.heap[gP]? = some (.cells #[.int .i64 a0, .int .i64 e0, .int .i64 c0, .int .i64 f0, .slice A0 D0.length d0] 26 (0, 0)) ∧ w'.cell? ⟨gB, 0, none⟩ = some (.slice (some ⟨gb, 0, none⟩) N cN) ∧ w'.rangeAt gb (j1 * 5) [.int .i64 a1, .int .i64 e0, .int .i64 c1, .int .i64 f0, .slice A1 D1.length d1] ∧ w'.rangeAt gb (j2 * 5) [.int .i64 a0, .int .i64 e1, .int .i64 c0, .int .i64 f1, .slice A2 D2.length d2] ∧ w'.rangeAt gb (j3 * 5) [.int .i64 a1, .int .i64 e1, .int .i64 c1, .int .i64 f1, .slice A3 D3.length d3]) (ds := [20]) #[false, false, false, false, false, false, false, false, false, false, false, false, false, false, false, false, false, false, false, false, false] (by kernel_rfl) rfl rfl ⟨K.out.get 0 rfl, K.out.cell 5 rfl 0 rfl, range_below HR1.out (HN.out ▸ K.out.below), range_below HR2.out (HN.out ▸ K.out.below), range_below HR3.out (HN.out ▸ K.out.below)⟩ (fun hHeld0 => ?_)
  generalize hw2 : w.drew = w2 at *
  clear hw2
  have hHeld := Aside0.mk hHeld0
  clear hHeld0
  refine take_ (i := 0) (N := some 11) (v := .agg #[.int .i64 a0, .int .i64 e0, .int .i64 c0, .int .i64 f0, .slice A0 D0.length d0]) (a' := ?_) #[true, false, false, false, false, false, false, false, false, false, false, false, false, false, false, false, false, false, false, false, false] rfl rfl (by kernel_rfl) (fun _ _ _ h => h) (load_all_yields (by rfl) 26 (.tmp 1) rfl rfl (fun _ h => h.1) Try.underlying26 rfl rfl) hHeld.out ?_ ?_
  rotate_left
  ·simp only [Act.put, List.setIfInBounds_toArray, List.set_cons_zero, List.set_cons_succ, i64_w, i32_w]
   rfl
  refine tT (i := 1) (N := some 12) (v := ?_) hHeld.out ?_
  refine pT (i := 2) (N := some 13) ?_
  refine pT (i := 3) (N := some 14) ?_
  refine pT (i := 4) (N := some 15) ?_
  refine pT (i := 5) (N := some 16) ?_
  refine take_ (i := 6) (N := some 17) (v := .agg #[.int .i64 a1, .int .i64 e0, .int .i64 c1, .int .i64 f0, .slice A1 D1.length d1]) (a' := ?_) #[true, true, true, true, true, true, true, false, false, false, false, false, false, false, false, false, false, false, false, false, false] rfl rfl (by kernel_rfl) (fun _ _ _ h => h) (load_range_yields (cs := [.int .i64 a1, .int .i64 e0, .int .i64 c1, .int .i64 f0, .slice A1 D1.length d1]) (by rfl) 26 (.tmp 16) rfl rfl (fun _ h => h.2.2.1) Try.underlying26 rfl rfl) hHeld.out ?_ ?_
  rotate_left
  ·simp only [Act.put, List.setIfInBounds_toArray, List.set_cons_zero, List.set_cons_succ, i64_w, i32_w]
   rfl
  refine tT (i := 7) (N := some 18) (v := ?_) hHeld.out ?_
  refine pT (i := 8) (N := some 19) ?_
  refine pT (i := 9) (N := some 20) ?_
  refine pT (i := 10) (N := some 21) ?_
  refine pT (i := 11) (N := some 22) ?_
  refine take_ (i := 12) (N := some 23) (v := .agg #[.int .i64 a0, .int .i64 e1, .int .i64 c0, .int .i64 f1, .slice A2 D2.length d2]) (a' := ?_) #[true, true, true, true, true, true, true, true, true, true, true, true, true, false, false, false, false, false, false, false, false] rfl rfl (by kernel_rfl) (fun _ _ _ h => h) (load_range_yields (cs := [.int .i64 a0, .int .i64 e1, .int .i64 c0, .int .i64 f1, .slice A2 D2.length d2]) (by rfl) 26 (.tmp 22) rfl rfl (fun _ h => h.2.2.2.1) Try.underlying26 rfl rfl) hHeld.out ?_ ?_
  rotate_left
  ·simp only [Act.put, List.setIfInBounds_toArray, List.set_cons_zero, List.set_cons_succ, i64_w, i32_w]
   rfl
  refine tT (i := 13) (N := some 24) (v := ?_) hHeld.out ?_
  refine pT (i := 14) (N := some 25) ?_
  refine pT (i := 15) (N := some 26) ?_
  refine pT (i := 16) (N := some 27) ?_
  refine take_ (i := 17) (N := some 28) (v := .agg #[.int .i64 a1, .int .i64 e1, .int .i64 c1, .int .i64 f1, .slice A3 D3.length d3]) (a' := ?_) #[true, true, true, true, true, true, true, true, true, true, true, true, true, true, true, true, true, true, false, false, false] rfl rfl (by kernel_rfl) (fun _ _ _ h => h) (load_range_yields (cs := [.int .i64 a1, .int .i64 e1, .int .i64 c1, .int .i64 f1, .slice A3 D3.length d3]) (by rfl) 26 (.tmp 27) rfl rfl (fun _ h => h.2.2.2.2) Try.underlying26 rfl rfl) hHeld.out ?_ ?_
  rotate_left
  ·simp only [Act.put, List.setIfInBounds_toArray, List.set_cons_zero, List.set_cons_succ, i64_w, i32_w]
   rfl
  refine pT (i := 18) (N := some 29) ?_
  refine one_ (i := 19) (N := some 8) #[true, true, true, true, true, true, true, true, true, true, true, true, true, true, true, true, true, true, true, true, false] rfl rfl (by kernel_rfl) (by decide) (fun KC hK => ?_)
  refine box_step ?hg (N := 8) ?hd (cs := #[.int .i64 0, .int .i64 0, .int .i64 0, .int .i64 0, .slice none 0 0, .int .i64 0, .int .i64 0, .int .i64 0, .int .i64 0, .slice none 0 0, .int .i64 0, .int .i64 0, .int .i64 0, .int .i64 0, .slice none 0 0, .int .i64 0, .int .i64 0, .int .i64 0, .int .i64 0, .slice none 0 0]) (t := 59) ?hr ?_
  case hd => rfl
  case hg => rfl
  case hr => first | (go_simp; done) | (go_simp; rfl)
  intro g8 hg w4 hbox hb
  replace K := Aside0.mk (K.out.box (K.out.size HN.out) hg hbox hb trivial)
  clear hg hbox hb hHeld
  refine hK.out _ _ ⟨K.out.get 1 rfl, K.out.cell 6 rfl 0 rfl, range_below HR1.out (HN.out ▸ K.out.below), range_below HR2.out (HN.out ▸ K.out.below), range_below HR3.out (HN.out ▸ K.out.below)⟩ (fun hHeld0 => ?_)
  have hHeld := Aside0.mk hHeld0
  clear hHeld0
  clear hK KC
  refine nT ?_
  refine last_ (i := 20) (N := none) #[true, true, true, true, true, true, true, true, true, true, true, true, true, true, true, true, true, true, true, true, true] rfl rfl (by kernel_rfl) (by decide) (fun KC hK => ?_)
  refine store_step (cs := #[.int .i64 a0, .int .i64 e0, .int .i64 c0, .int .i64 f0, .slice A0 D0.length d0, .int .i64 a1, .int .i64 e0, .int .i64 c1, .int .i64 f0, .slice A1 D1.length d1, .int .i64 a0, .int .i64 e1, .int .i64 c0, .int .i64 f1, .slice A2 D2.length d2, .int .i64 a1, .int .i64 e1, .int .i64 c1, .int .i64 f1, .slice A3 D3.length d3]) (by rfl) rfl 59 (.tmp 8) (.tmp 29) rfl rfl (by kernel_rfl) (K.out.get 0 rfl) rfl rfl (by first | (kernel_rfl) | (simp [Value.oneCell'])) ?_
  intro WS hs
  refine hK.out _ _ ?_
  replace K := Aside0.mk (K.out.stored 0 rfl hs)
  clear hK KC hs hHeld
  refine done_ (by kernel_rfl) ?_
  go_wp2
  go_meet
  case rel => exact ⟨_, rfl, ⟨K.out⟩⟩
 case rest =>
 obtain ⟨g8, rfl, K⟩ := hcut
 clear hj1 hl1 hm1 HR1
 clear hj2 hl2 hm2 HR2
 clear hj3 hl3 hm3 HR3
 go_upto_region 2 with (fail)
 go_cut [9, 10] (fun v9 v10 wd => ∃ (g9 : Nat) (Av : Option Addr) (dv : Nat), v9 = .pointer (some ⟨g9, 0, none⟩) ∧ v10 = .int .i64 0 ∧ Aside0 (Hold n0 w0 wd [(g9, 26, #[.int .i64 X0, .int .i64 Y0, .int .i64 X1, .int .i64 Y1, .slice Av G.length dv]), (g8, 59, #[.int .i64 a0, .int .i64 e0, .int .i64 c0, .int .i64 f0, .slice A0 D0.length d0, .int .i64 a1, .int .i64 e0, .int .i64 c1, .int .i64 f0, .slice A1 D1.length d1, .int .i64 a0, .int .i64 e1, .int .i64 c0, .int .i64 f1, .slice A2 D2.length d2, .int .i64 a1, .int .i64 e1, .int .i64 c1, .int .i64 f1, .slice A3 D3.length d3]), (gP, 26, #[.int .i64 a0, .int .i64 e0, .int .i64 c0, .int .i64 f0, .slice A0 D0.length d0]), (g10, 26, #[.int .i64 0, .int .i64 0, .int .i64 0, .int .i64 0, .slice none 0 0]), (gK, 28, #[.int .i64 kk]), (gL, 3, #[.int .i64 n]), (gR, 23, #[.int .i64 x0, .int .i64 y0, .int .i64 x1, .int .i64 y1]), (gB, 32, #[.slice (some ⟨gb, 0, none⟩) N cN])] [(.slice Av G.length dv, G), (.slice A0 D0.length d0, D0)]))
 case first =>
  replace K := Aside0.mk (K.out.drew)
  refine start_ (n := 13) (S := fun w' => w'.heap[g8]? = some (.cells #[.int .i64 a0, .int .i64 e0, .int .i64 c0, .int .i64 f0, .slice A0 D0.length d0, .int .i64 a1, .int .i64 e0, .int .i64 c1, .int .i64 f0, .slice A1 D1.length d1, .int .i64 a0, .int .i64 e1, .int .i64 c0, .int .i64 f1, .slice A2 D2.length d2, .int .i64 a1, .int .i64 e1, .int .i64 c1, .int .i64 f1, .slice A3 D3.length d3] 59 (0, 0)) ∧ w'.heap[gR]? = some (.cells #[.int .i64 x0, .int .i64 y0, .int .i64 x1, .int .i64 y1] 23 (0, 0)) ∧ w'.cell? ⟨gL, 0, none⟩ = some (.int .i64 n) ∧ w'.cell? ⟨gK, 0, none⟩ = some (.int .i64 kk)) (ds := [11]) #[false, false, false, false, false, false, false, false, false, false, false, false, false] (by kernel_rfl) rfl rfl ⟨K.out.get 0 rfl, K.out.get 5 rfl, K.out.cell 4 rfl 0 rfl, K.out.cell 3 rfl 0 rfl⟩ (fun hHeld0 => ?_)
  generalize hw2 : wc.drew = w2 at *
  clear hw2
  have hHeld := Aside0.mk hHeld0
  clear hHeld0
  refine take_ (i := 0) (N := some 31) (v := .agg #[.int .i64 a0, .int .i64 e0, .int .i64 c0, .int .i64 f0, .slice A0 D0.length d0, .int .i64 a1, .int .i64 e0, .int .i64 c1, .int .i64 f0, .slice A1 D1.length d1, .int .i64 a0, .int .i64 e1, .int .i64 c0, .int .i64 f1, .slice A2 D2.length d2, .int .i64 a1, .int .i64 e1, .int .i64 c1, .int .i64 f1, .slice A3 D3.length d3]) (a' := ?_) #[true, false, false, false, false, false, false, false, false, false, false, false, false] rfl rfl (by kernel_rfl) (fun _ _ _ h => h) (load_all_yields (by rfl) 59 (.tmp 8) rfl rfl (fun _ h => h.1) Try.underlying59 rfl rfl) hHeld.out ?_ ?_
  rotate_left
  ·simp only [Act.put, List.setIfInBounds_toArray, List.set_cons_zero, List.set_cons_succ, i64_w, i32_w]
   rfl
  refine take_ (i := 1) (N := some 32) (v := .agg #[.int .i64 x0, .int .i64 y0, .int .i64 x1, .int .i64 y1]) (a' := ?_) #[true, true, false, false, false, false, false, false, false, false, false, false, false] rfl rfl (by kernel_rfl) (fun _ _ _ h => h) (load_all_yields (by rfl) 23 (.tmp 3) rfl rfl (fun _ h => h.2.1) Try.underlying23 rfl rfl) hHeld.out ?_ ?_
  rotate_left
  ·simp only [Act.put, List.setIfInBounds_toArray, List.set_cons_zero, List.set_cons_succ, i64_w, i32_w]
   rfl
  refine tT (i := 2) (N := some 33) (v := ?_) hHeld.out ?_
  refine pT (i := 3) (N := some 34) ?_
  refine tT (i := 5) (N := some 36) (v := ?_) hHeld.out ?_
  refine two_ (i := 4) (j := 10) (Ni := some 35) (Nj := some 9) #[true, true, true, true, true, true, false, false, false, false, false, false, false] #[true, true, true, true, false, true, false, false, false, false, true, false, false] rfl rfl rfl rfl (by kernel_rfl) (by decide) (by decide) (fun KC hK => ?_) (fun KC hK => ?_)
  ·skip
   refine goes_ Try.func33 (by kernel_rfl) rfl #[.agg #[.int .i64 x0, .int .i64 y0, .int .i64 x1, .int .i64 y1], .int .i64 n, .int .i64 z] (by rfl) rfl rfl (by simp only [List.map_toArray, List.map_cons, List.map_nil]; rfl) ?_
   refine (pyramid_Resolution.calls kr x0 y0 x1 y1 n z X0 Y0 X1 Y1 _ HRS.out).mono ?_
   rintro _ w33 ⟨rfl, b⟩
   refine ⟨_, rfl, ?_⟩
   replace K := Aside0.mk (K.out.call (K.out.size HN.out) b)
   clear b hHeld
   refine hK.out _ _ ⟨K.out.get 0 rfl, K.out.get 5 rfl, K.out.cell 4 rfl 0 rfl, K.out.cell 3 rfl 0 rfl⟩ (fun hHeld0 => ?_)
   have hHeld := Aside0.mk hHeld0
   clear hHeld0
   clear hK KC
   refine nT ?_
   refine two_ (i := 6) (j := 10) (Ni := some 37) (Nj := some 9) #[true, true, true, true, true, true, true, false, false, false, false, false, false] #[true, true, true, true, true, true, false, false, false, false, true, false, false] rfl rfl rfl rfl (by kernel_rfl) (by decide) (by decide) (fun KC hK => ?_) (fun KC hK => ?_)
   ·skip
    refine goes_ Try.func41 (by kernel_rfl) rfl #[.agg #[.int .i64 a0, .int .i64 e0, .int .i64 c0, .int .i64 f0, .slice A0 D0.length d0, .int .i64 a1, .int .i64 e0, .int .i64 c1, .int .i64 f0, .slice A1 D1.length d1, .int .i64 a0, .int .i64 e1, .int .i64 c0, .int .i64 f1, .slice A2 D2.length d2, .int .i64 a1, .int .i64 e1, .int .i64 c1, .int .i64 f1, .slice A3 D3.length d3], .agg #[.int .i64 X0, .int .i64 Y0, .int .i64 X1, .int .i64 Y1], .int .i64 kk] (by rfl) rfl rfl (by simp only [List.map_toArray, List.map_cons, List.map_nil]; rfl) ?_
    refine (dwt_Merge.to kk X0 Y0 X1 Y1 A0 d0 A1 d1 A2 d2 A3 d3 D0 D1 D2 D3 G a0 a1 c0 c1 e0 e1 f0 f1 _ (K.out.readAt 0 rfl).2.2 (K.out.readAt 0 rfl).2.1 (Kd.C_below HC1.out.2 (HN.out ▸ K.out.below)) HC1.out.1 (Kd.C_below HC2.out.2 (HN.out ▸ K.out.below)) HC2.out.1 (Kd.C_below HC3.out.2 (HN.out ▸ K.out.below)) HC3.out.1 HMT.out).mono ?_
    rintro _ w41 ⟨v, rfl, hH⟩
    obtain ⟨Av, dv, rfl⟩ := Kd.R_slice (hH.rowAt 0 rfl)
    refine ⟨_, rfl, ?_⟩
    replace K := Aside0.mk (K.out.join (K.out.size HN.out) hH)
    clear hH hHeld
    refine hK.out _ _ ⟨K.out.get 0 rfl, K.out.get 5 rfl, K.out.cell 4 rfl 0 rfl, K.out.cell 3 rfl 0 rfl⟩ (fun hHeld0 => ?_)
    have hHeld := Aside0.mk hHeld0
    clear hHeld0
    clear hK KC
    refine nT ?_
    refine pT (i := 7) (N := some 30) ?_
    refine pT (i := 8) (N := some 38) ?_
    refine pT (i := 9) (N := some 39) ?_
    refine one_ (i := 10) (N := some 9) #[true, true, true, true, true, true, true, true, true, true, true, false, false] rfl rfl (by kernel_rfl) (by decide) (fun KC hK => ?_)
    refine box_step ?hg (N := 9) ?hd (cs := #[.int .i64 0, .int .i64 0, .int .i64 0, .int .i64 0, .slice none 0 0]) (t := 26) ?hr ?_
    case hd => rfl
    case hg => rfl
    case hr => first | (go_simp; done) | (go_simp; rfl)
    intro g9 hg w9 hbox hb
    replace K := Aside0.mk (K.out.box (K.out.size HN.out) hg hbox hb trivial)
    clear hg hbox hb hHeld
    refine hK.out _ _ ⟨K.out.get 1 rfl, K.out.get 6 rfl, K.out.cell 5 rfl 0 rfl, K.out.cell 4 rfl 0 rfl⟩ (fun hHeld0 => ?_)
    have hHeld := Aside0.mk hHeld0
    clear hHeld0
    clear hK KC
    refine nT ?_
    refine last_ (i := 11) (N := none) #[true, true, true, true, true, true, true, true, true, true, true, true, false] rfl rfl (by kernel_rfl) (by decide) (fun KC hK => ?_)
    refine store_step (cs := #[.int .i64 X0, .int .i64 Y0, .int .i64 X1, .int .i64 Y1, .slice Av G.length dv]) (by rfl) rfl 26 (.tmp 9) (.tmp 38) rfl rfl (by kernel_rfl) (K.out.get 0 rfl) rfl rfl (by first | (kernel_rfl) | (simp [Value.oneCell'])) ?_
    intro WS hs
    refine hK.out _ _ ?_
    replace K := Aside0.mk (K.out.stored 0 rfl hs)
    clear hK KC hs hHeld
    refine pT (i := 12) (N := some 10) ?_
    refine done_ (by kernel_rfl) ?_
    go_wp2
    go_meet
    case rel => exact ⟨_, _, _, rfl, rfl, ⟨K.out⟩⟩
   ·skip
    refine box_step ?hg (N := 9) ?hd (cs := #[.int .i64 0, .int .i64 0, .int .i64 0, .int .i64 0, .slice none 0 0]) (t := 26) ?hr ?_
    case hd => rfl
    case hg => rfl
    case hr => first | (go_simp; done) | (go_simp; rfl)
    intro g9 hg w9 hbox hb
    replace K := Aside0.mk (K.out.box (K.out.size HN.out) hg hbox hb trivial)
    clear hg hbox hb hHeld
    refine hK.out _ _ ⟨K.out.get 1 rfl, K.out.get 6 rfl, K.out.cell 5 rfl 0 rfl, K.out.cell 4 rfl 0 rfl⟩ (fun hHeld0 => ?_)
    have hHeld := Aside0.mk hHeld0
    clear hHeld0
    clear hK KC
    refine nT ?_
    refine one_ (i := 6) (N := some 37) #[true, true, true, true, true, true, true, false, false, false, true, false, false] rfl rfl (by kernel_rfl) (by decide) (fun KC hK => ?_)
    refine goes_ Try.func41 (by kernel_rfl) rfl #[.agg #[.int .i64 a0, .int .i64 e0, .int .i64 c0, .int .i64 f0, .slice A0 D0.length d0, .int .i64 a1, .int .i64 e0, .int .i64 c1, .int .i64 f0, .slice A1 D1.length d1, .int .i64 a0, .int .i64 e1, .int .i64 c0, .int .i64 f1, .slice A2 D2.length d2, .int .i64 a1, .int .i64 e1, .int .i64 c1, .int .i64 f1, .slice A3 D3.length d3], .agg #[.int .i64 X0, .int .i64 Y0, .int .i64 X1, .int .i64 Y1], .int .i64 kk] (by rfl) rfl rfl (by simp only [List.map_toArray, List.map_cons, List.map_nil]; rfl) ?_
    refine (dwt_Merge.to kk X0 Y0 X1 Y1 A0 d0 A1 d1 A2 d2 A3 d3 D0 D1 D2 D3 G a0 a1 c0 c1 e0 e1 f0 f1 _ (K.out.readAt 0 rfl).2.2 (K.out.readAt 0 rfl).2.1 (Kd.C_below HC1.out.2 (HN.out ▸ K.out.below)) HC1.out.1 (Kd.C_below HC2.out.2 (HN.out ▸ K.out.below)) HC2.out.1 (Kd.C_below HC3.out.2 (HN.out ▸ K.out.below)) HC3.out.1 HMT.out).mono ?_
    rintro _ w41 ⟨v, rfl, hH⟩
    obtain ⟨Av, dv, rfl⟩ := Kd.R_slice (hH.rowAt 0 rfl)
    refine ⟨_, rfl, ?_⟩
    replace K := Aside0.mk (K.out.join (K.out.size HN.out) hH)
    clear hH hHeld
    refine hK.out _ _ ⟨K.out.get 1 rfl, K.out.get 6 rfl, K.out.cell 5 rfl 0 rfl, K.out.cell 4 rfl 0 rfl⟩ (fun hHeld0 => ?_)
    have hHeld := Aside0.mk hHeld0
    clear hHeld0
    clear hK KC
    refine nT ?_
    refine pT (i := 7) (N := some 30) ?_
    refine pT (i := 8) (N := some 38) ?_
    refine pT (i := 9) (N := some 39) ?_
    refine last_ (i := 11) (N := none) #[true, true, true, true, true, true, true, true, true, true, true, true, false] rfl rfl (by kernel_rfl) (by decide) (fun KC hK => ?_)
    refine store_step (cs := #[.int .i64 X0, .int .i64 Y0, .int .i64 X1, .int .i64 Y1, .slice Av G.length dv]) (by rfl) rfl 26 (.tmp 9) (.tmp 38) rfl rfl (by kernel_rfl) (K.out.get 0 rfl) rfl rfl (by first | (kernel_rfl) | (simp [Value.oneCell'])) ?_
    intro WS hs
    refine hK.out _ _ ?_
    replace K := Aside0.mk (K.out.stored 0 rfl hs)
    clear hK KC hs hHeld
    refine pT (i := 12) (N := some 10) ?_
    refine done_ (by kernel_rfl) ?_
    go_wp2
    go_meet
    case rel => exact ⟨_, _, _, rfl, rfl, ⟨K.out⟩⟩
  ·skip
   refine box_step ?hg (N := 9) ?hd (cs := #[.int .i64 0, .int .i64 0, .int .i64 0, .int .i64 0, .slice none 0 0]) (t := 26) ?hr ?_
   case hd => rfl
   case hg => rfl
   case hr => first | (go_simp; done) | (go_simp; rfl)
   intro g9 hg w9 hbox hb
   replace K := Aside0.mk (K.out.box (K.out.size HN.out) hg hbox hb trivial)
   clear hg hbox hb hHeld
   refine hK.out _ _ ⟨K.out.get 1 rfl, K.out.get 6 rfl, K.out.cell 5 rfl 0 rfl, K.out.cell 4 rfl 0 rfl⟩ (fun hHeld0 => ?_)
   have hHeld := Aside0.mk hHeld0
   clear hHeld0
   clear hK KC
   refine nT ?_
   refine one_ (i := 4) (N := some 35) #[true, true, true, true, true, true, false, false, false, false, true, false, false] rfl rfl (by kernel_rfl) (by decide) (fun KC hK => ?_)
   refine goes_ Try.func33 (by kernel_rfl) rfl #[.agg #[.int .i64 x0, .int .i64 y0, .int .i64 x1, .int .i64 y1], .int .i64 n, .int .i64 z] (by rfl) rfl rfl (by simp only [List.map_toArray, List.map_cons, List.map_nil]; rfl) ?_
   refine (pyramid_Resolution.calls kr x0 y0 x1 y1 n z X0 Y0 X1 Y1 _ HRS.out).mono ?_
   rintro _ w33 ⟨rfl, b⟩
   refine ⟨_, rfl, ?_⟩
   replace K := Aside0.mk (K.out.call (K.out.size HN.out) b)
   clear b hHeld
   refine hK.out _ _ ⟨K.out.get 1 rfl, K.out.get 6 rfl, K.out.cell 5 rfl 0 rfl, K.out.cell 4 rfl 0 rfl⟩ (fun hHeld0 => ?_)
   have hHeld := Aside0.mk hHeld0
   clear hHeld0
   clear hK KC
   refine nT ?_
   refine one_ (i := 6) (N := some 37) #[true, true, true, true, true, true, true, false, false, false, true, false, false] rfl rfl (by kernel_rfl) (by decide) (fun KC hK => ?_)
   refine goes_ Try.func41 (by kernel_rfl) rfl #[.agg #[.int .i64 a0, .int .i64 e0, .int .i64 c0, .int .i64 f0, .slice A0 D0.length d0, .int .i64 a1, .int .i64 e0, .int .i64 c1, .int .i64 f0, .slice A1 D1.length d1, .int .i64 a0, .int .i64 e1, .int .i64 c0, .int .i64 f1, .slice A2 D2.length d2, .int .i64 a1, .int .i64 e1, .int .i64 c1, .int .i64 f1, .slice A3 D3.length d3], .agg #[.int .i64 X0, .int .i64 Y0, .int .i64 X1, .int .i64 Y1], .int .i64 kk] (by rfl) rfl rfl (by simp only [List.map_toArray, List.map_cons, List.map_nil]; rfl) ?_
   refine (dwt_Merge.to kk X0 Y0 X1 Y1 A0 d0 A1 d1 A2 d2 A3 d3 D0 D1 D2 D3 G a0 a1 c0 c1 e0 e1 f0 f1 _ (K.out.readAt 0 rfl).2.2 (K.out.readAt 0 rfl).2.1 (Kd.C_below HC1.out.2 (HN.out ▸ K.out.below)) HC1.out.1 (Kd.C_below HC2.out.2 (HN.out ▸ K.out.below)) HC2.out.1 (Kd.C_below HC3.out.2 (HN.out ▸ K.out.below)) HC3.out.1 HMT.out).mono ?_
   rintro _ w41 ⟨v, rfl, hH⟩
   obtain ⟨Av, dv, rfl⟩ := Kd.R_slice (hH.rowAt 0 rfl)
   refine ⟨_, rfl, ?_⟩
   replace K := Aside0.mk (K.out.join (K.out.size HN.out) hH)
   clear hH hHeld
   refine hK.out _ _ ⟨K.out.get 1 rfl, K.out.get 6 rfl, K.out.cell 5 rfl 0 rfl, K.out.cell 4 rfl 0 rfl⟩ (fun hHeld0 => ?_)
   have hHeld := Aside0.mk hHeld0
   clear hHeld0
   clear hK KC
   refine nT ?_
   refine pT (i := 7) (N := some 30) ?_
   refine pT (i := 8) (N := some 38) ?_
   refine pT (i := 9) (N := some 39) ?_
   refine last_ (i := 11) (N := none) #[true, true, true, true, true, true, true, true, true, true, true, true, false] rfl rfl (by kernel_rfl) (by decide) (fun KC hK => ?_)
   refine store_step (cs := #[.int .i64 X0, .int .i64 Y0, .int .i64 X1, .int .i64 Y1, .slice Av G.length dv]) (by rfl) rfl 26 (.tmp 9) (.tmp 38) rfl rfl (by kernel_rfl) (K.out.get 0 rfl) rfl rfl (by first | (kernel_rfl) | (simp [Value.oneCell'])) ?_
   intro WS hs
   refine hK.out _ _ ?_
   replace K := Aside0.mk (K.out.stored 0 rfl hs)
   clear hK KC hs hHeld
   refine pT (i := 12) (N := some 10) ?_
   refine done_ (by kernel_rfl) ?_
   go_wp2
   go_meet
   case rel => exact ⟨_, _, _, rfl, rfl, ⟨K.out⟩⟩
 case rest =>
 obtain ⟨g9, Av, dv, rfl, rfl, K⟩ := hcut
 go_wp2_with (first
  | ((with_reducible refine gate_dst (N := 40) rfl ?_); refine load_ev rfl 26 (.tmp 9) rfl rfl (K.out.get 0 rfl) Try.underlying26 rfl ?_)
  | ((with_reducible refine gate_store (t := 26) (p := 1) (v := .tmp 40) rfl ?_); refine store_ev rfl rfl 26 (.tmp 1) (.tmp 40) rfl rfl rfl (K.out.get 2 rfl) rfl rfl (by first | (kernel_rfl) | (simp [Value.oneCell'])) ?_; intro W1s hs; replace K := Aside0.mk (K.out.stored 2 rfl hs); clear hs))
 go_ret
 exact ⟨rfl, Av, dv, K.out.tl.tl.erase 1⟩
end Go.Proofs.Ytcnpekpgghppnaa.Q
namespace Go.Proofs.Ytcnpekpgghppnaa.Q
open Go.RowKit Go.Proofs.YtcnpekpgghppnaaW.PrintWords Go.Proofs.YtcnpekpgghppnaaW.PrintLast Go.Proofs.YtcnpekpgghppnaaW.PrintMore
set_option linter.unusedVariables false
set_option linter.unusedSimpArgs false
attribute [local go_sem high] eqA23_same
/-- One step of the synthesis: the q-th plane becomes the next one. -/
def SynStep (kk x0 y0 x1 y1 n : Int) (bs : List Pl) (q : Nat) (p p' : Pl) : Prop :=
 ∃ (kr : Nat) (a1 c1 e1 f1 : Int) (D1 D2 D3 : List Int), bs[3 * q + 1]? = some ⟨a1, p.y0, c1, p.y1, D1⟩ ∧ bs[3 * q + 2]? = some ⟨p.x0, e1, p.x1, f1, D2⟩ ∧ bs[3 * q + 3]? = some ⟨a1, e1, c1, f1, D3⟩ ∧ pyramid_Resolution.f kr x0 y0 x1 y1 n ((q + 1 : Nat) : Int) = some (p'.x0, p'.y0, p'.x1, p'.y1) ∧ MergeTo kk p'.x0 p'.y0 p'.x1 p'.y1 p.x0 a1 p.x1 c1 p.y0 e1 p.y1 f1 p.D D1 D2 D3 p'.D
/-- A subband that is asked for is as the synthesis wants it. -/
def BandOk (x0 y0 x1 y1 n : Int) (j : Nat) (p : Pl) : Prop := PV p.x0 p.y0 p.x1 p.y1 p.D ∧ BandTo x0 y0 x1 y1 n (j : Int) (p.x0, p.y0, p.x1, p.y1) ∧ ∃ ke, pyramid_exceeds.f ke p.D 4294967296 = some false
set_option maxHeartbeats 8000000 in
set_option maxRecDepth 100000 in
theorem pyramid_Synthesize.good (km kr n res : Nat) (kk mg ar x0 y0 x1 y1 R0 R1 R2 R3 : Int) (ps : List (Value × Pl)) (u : Nat → Pl) (gb N cN : Nat) (w : World)
  (hbd : Bds w gb ps) (hnp : N = ps.length ∧ N = 3 * n + 1 ∧ N ≤ cN) (hrv : rect_Valid.f x0 y0 x1 y1 = some true) (hnn : res ≤ n ∧ n ≤ 5) (hrs : pyramid_Resolution.f kr x0 y0 x1 y1 (n : Int) (res : Int) = some (R0, R1, R2, R3)) (har : rect_Area.f R0 R1 R2 R3 = some ar) (hal : ar ≤ 1048576) (hm : lift_Margin.f km kk = some mg) (hmg : mg ≠ 0) (hall : ∀ (j : Nat) (p : Value × Pl), j ≤ 3 * res → ps[j]? = some p → BandOk x0 y0 x1 y1 (n : Int) j p.2) (hu0 : (ps.map (·.2))[0]? = some (u 0)) (hus : ∀ q, q < res → SynStep kk x0 y0 x1 y1 (n : Int) (ps.map (·.2)) q (u q) (u (q + 1))) :
  Calls Try.prog 16 #[.slice (some ⟨gb, 0, none⟩) N cN, .agg #[.int .i64 x0, .int .i64 y0, .int .i64 x1, .int .i64 y1], .int .i64 (n : Int), .int .i64 (res : Int), .int .i64 kk] w fun e w' => ∃ v : Value, e = .returned (.tuple #[.agg #[.int .i64 (u res).x0, .int .i64 (u res).y0, .int .i64 (u res).x1, .int .i64 (u res).y1, v], .int .i64 0]) ∧ Hold w.heap.size w w' [] [(v, (u res).D)] := by
 have HBD := Aside0.mk hbd
 have HNP := Aside0.mk hnp
 have HRV := Aside0.mk hrv
 have HNN := Aside0.mk hnn
 have HRS := Aside0.mk hrs
 have HAR := Aside0.mk har
 have HAL := Aside0.mk hal
 have HM := Aside0.mk hm
 have HMG := Aside0.mk hmg
 have HALL := Aside0.mk hall
 have HU0 := Aside0.mk hu0
 have HUS := Aside0.mk hus
 have HVL := Aside0.mk (show pyramid_validLevels.f (n : Int) = some true by unfold pyramid_validLevels.f; rw [if_pos (by omega), decide_eq_true (by omega)])
 have HCT := Aside0.mk (show pyramid_Count.f (n : Int) = some (N : Int) by unfold pyramid_Count.f; rw [HVL.out]; show some (wrap64 (wrap64 (3 * (n : Int)) + 1)) = some (N : Int); rw [show wrap64 (wrap64 (3 * (n : Int)) + 1) = (N : Int) by unfold wrap64; omega])
 have b0 : decide (mg = 0) = false := decide_eq_false hmg
 have b1 : (mg == 0) = false := beq_eq_false_iff_ne.mpr hmg
 have b2 : decide ((res : Int) < 0) = false := decide_eq_false (by omega)
 have b3 : decide ((n : Int) < (res : Int)) = false := decide_eq_false (by omega)
 have b3' : decide (n < res) = false := decide_eq_false (by omega)
 have b4 : decide (1048576 < ar) = false := decide_eq_false (by omega)
 have hw3 : wrap64 (3 * (res : Int)) = ((3 * res : Nat) : Int) := by unfold wrap64; omega
 obtain ⟨m, hm3⟩ : ∃ m : Nat, m = 3 * res := ⟨_, rfl⟩
 rw [← hm3] at hw3
 have HM3 := Aside0.mk (And.intro hm3 (show m < N by omega))
 clear hm3
 clear hbd hnp hrv hnn hrs har hal hm hmg hall hu0 hus
 have K00 := Aside0.mk (Hold.nil w)
 go_enter Try.func16, Try.ntmps16
 go_upto_region 5 with (first
  | ((with_reducible refine gate_dst (N := 5) rfl ?_); refine bT (N := 5) (#[.slice (some ⟨gb, 0, none⟩) N cN]) 32 ?_; intro g5 hg W5 hbox hb; have K1 := Aside0.mk (K00.out.box (Nat.le_refl _) hg hbox hb trivial); clear hg hbox hb K00)
  | ((with_reducible refine gate_dst (N := 6) rfl ?_); refine bT (N := 6) (#[.int .i64 x0, .int .i64 y0, .int .i64 x1, .int .i64 y1]) 23 ?_; intro g6 hg W6 hbox hb; have K2 := Aside0.mk (K1.out.box (below_size K1.out.below) hg hbox hb trivial); clear hg hbox hb K1)
  | ((with_reducible refine gate_dst (N := 7) rfl ?_); refine bT (N := 7) (#[.int .i64 (n : Int)]) 3 ?_; intro g7 hg W7 hbox hb; have K3 := Aside0.mk (K2.out.box (below_size K2.out.below) hg hbox hb trivial); clear hg hbox hb K2)
  | ((with_reducible refine gate_dst (N := 9) rfl ?_); refine bT (N := 9) (#[.int .i64 kk]) 28 ?_; intro g9 hg W9 hbox hb; have K4 := Aside0.mk (K3.out.box (below_size K3.out.below) hg hbox hb trivial); clear hg hbox hb K3)
  | ((with_reducible refine gate_dst (N := 10) rfl ?_); refine bT (N := 10) (#[.int .i64 0, .int .i64 0, .int .i64 0, .int .i64 0, .slice none 0 0]) 26 ?_; intro g10 hg W10 hbox hb; have K := Aside0.mk (K4.out.box (below_size K4.out.below) hg hbox hb trivial); clear hg hbox hb K4)
  | ((with_reducible refine gate_dst (N := 18) rfl ?_); refine load_ev rfl 23 (.tmp 6) rfl rfl (K.out.get 3 rfl) Try.underlying23 rfl ?_)
  | (go_at_call 31; (with_reducible refine (rect_Valid.calls x0 y0 x1 y1 true _ HRV.out).mono ?_); rintro _ w31 ⟨rfl, b⟩; replace K := Aside0.mk (K.out.call (below_size K.out.below) b); clear b; have p7 : w31.cell? ⟨g7, 0, none⟩ = some (.int .i64 (n : Int)) := K.out.cell 2 rfl 0 rfl)
  | ((try (refine gate_guard (by rfl) ?_; dsimp only)); go_at_call 27; (with_reducible refine (pyramid_validLevels.calls (n : Int) true _ HVL.out).mono ?_); rintro _ w27 ⟨rfl, b⟩; replace K := Aside0.mk (K.out.call (below_size K.out.below) b.below); clear b p7; have p7 : w27.cell? ⟨g7, 0, none⟩ = some (.int .i64 (n : Int)) := K.out.cell 2 rfl 0 rfl)
  | ((with_reducible refine gate_dst (N := 36) rfl ?_); (try (refine gate_guard (by rfl) ?_; dsimp only)); refine load_ev rfl 23 (.tmp 6) rfl rfl (K.out.get 3 rfl) Try.underlying23 rfl ?_)
  | ((try (refine gate_guard (by rfl) ?_; dsimp only)); go_at_call 33; (with_reducible refine (pyramid_Resolution.calls kr x0 y0 x1 y1 (n : Int) (res : Int) R0 R1 R2 R3 _ HRS.out).mono ?_); rintro _ w33 ⟨rfl, b⟩; replace K := Aside0.mk (K.out.call (below_size K.out.below) b); clear b p7)
  | ((try (refine gate_guard (by rfl) ?_; dsimp only)); go_at_call 36; (with_reducible refine (rect_Area.calls R0 R1 R2 R3 ar _ HAR.out).mono ?_); rintro _ w36 ⟨rfl, b⟩; replace K := Aside0.mk (K.out.call (below_size K.out.below) b); clear b; have p9 : w36.cell? ⟨g9, 0, none⟩ = some (.int .i64 kk) := K.out.cell 1 rfl 0 rfl)
  | (go_at_call 26; (with_reducible refine (lift_Margin.calls km kk mg _ HM.out).mono ?_); rintro _ w26 ⟨rfl, b⟩; replace K := Aside0.mk (K.out.call (below_size K.out.below) b.below); clear b p9))
 clear b0 b1 b2 b3 b3' b4 HRV HVL HRS HAR HAL HM HMG
 go_cut [52] (fun v52 wc => v52 = .bool false ∧ Aside0 (Hold w.heap.size w wc [(g10, 26, #[.int .i64 0, .int .i64 0, .int .i64 0, .int .i64 0, .slice none 0 0]), (g9, 28, #[.int .i64 kk]), (g7, 3, #[.int .i64 (n : Int)]), (g6, 23, #[.int .i64 x0, .int .i64 y0, .int .i64 x1, .int .i64 y1]), (g5, 32, #[.slice (some ⟨gb, 0, none⟩) N cN])] []))
 case first =>
  replace K := Aside0.mk (K.out.drew)
  have b5 : decide ((N : Int) = (N : Int)) = true := decide_eq_true rfl
  refine start_ (n := 5) (S := fun w' => w'.cell? ⟨g5, 0, none⟩ = some (.slice (some ⟨gb, 0, none⟩) N cN) ∧ w'.cell? ⟨g7, 0, none⟩ = some (.int .i64 (n : Int))) (ds := []) #[false, false, false, false, false] (by kernel_rfl) rfl rfl ⟨K.out.cell 4 rfl 0 rfl, K.out.cell 2 rfl 0 rfl⟩ (fun hHeld0 => ?_)
  generalize hw2 : w26.drew = w2 at *
  clear hw2
  have hHeld := Aside0.mk hHeld0
  clear hHeld0
  refine tT (i := 0) (N := some 48) (v := ?_) hHeld.out ?_
  refine pT (i := 1) (N := some 49) ?_
  refine tT (i := 2) (N := some 50) (v := ?_) hHeld.out ?_
  refine one_ (i := 3) (N := some 51) #[true, true, true, true, false] rfl rfl (by kernel_rfl) (by decide) (fun KC hK => ?_)
  refine goes_ Try.func29 (by kernel_rfl) rfl #[.int .i64 (n : Int)] (by rfl) rfl rfl (by simp only [List.map_toArray, List.map_cons, List.map_nil]; rfl) ?_
  refine (pyramid_Count.calls (n : Int) (N : Int) _ HCT.out).mono ?_
  rintro _ w3 ⟨rfl, b⟩
  refine ⟨_, rfl, ?_⟩
  replace K := Aside0.mk (K.out.call (below_size K.out.below) b.below)
  clear b hHeld
  refine hK.out _ _ ⟨K.out.cell 4 rfl 0 rfl, K.out.cell 2 rfl 0 rfl⟩ (fun hHeld0 => ?_)
  have hHeld := Aside0.mk hHeld0
  clear hHeld0
  clear hK KC
  refine nT ?_
  refine pT (i := 4) (N := some 52) ?_
  refine done_ (by kernel_rfl) ?_
  clear hHeld
  go_wp2
  go_meet
  case rel => exact ⟨rfl, ⟨K.out⟩⟩
 case rest =>
 obtain ⟨rfl, K⟩ := hcut
 go_wp2
 clear HCT
 go_loopg [12] (m + 1) (fun kq v12 w' => ∃ j : Nat, v12 = .int .i64 (j : Int) ∧ j + kq = m + 1 ∧ Aside0 (Hold w.heap.size w w' [(g10, 26, #[.int .i64 0, .int .i64 0, .int .i64 0, .int .i64 0, .slice none 0 0]), (g9, 28, #[.int .i64 kk]), (g7, 3, #[.int .i64 (n : Int)]), (g6, 23, #[.int .i64 x0, .int .i64 y0, .int .i64 x1, .int .i64 y1]), (g5, 32, #[.slice (some ⟨gb, 0, none⟩) N cN])] []))
 case atStart => exact ⟨0, rfl, by omega, ⟨K.out⟩⟩
 case round =>
 clear K
 obtain ⟨j, rfl, hj, K⟩ := hrel
 by_cases hjm : j ≤ m
 ·have hb0 : decide ((j : Int) ≤ (m : Int)) = true := decide_eq_true (by omega)
  have hb0' : decide (j ≤ m) = true := decide_eq_true hjm
  have hl1 : ((j : Int) < (N : Int)) = True := eq_true (by have := HM3.out; omega)
  have hl2 : (j < N) = True := eq_true (by have := HM3.out; omega)
  have hwj : wrap64 ((j : Int) + 1) = ((j + 1 : Nat) : Int) := by have := HM3.out; have := HNP.out; have := HNN.out; unfold wrap64; omega
  obtain ⟨p, hp⟩ : ∃ p, ps[j]? = some p := ⟨_, List.getElem?_eq_getElem (show j < ps.length by have := HNP.out; have := HM3.out; omega)⟩
  have hb := HALL.out j p (by have := HM3.out; omega) hp
  have hrg := HBD.out.cells j p hp
  obtain ⟨Aq, cq, hpv, hcq⟩ := HBD.out.data j p hp
  obtain ⟨pv, q0, q1, q2, q3, Dq⟩ := p
  dsimp only at hpv hcq hb
  subst hpv
  have HRG := Aside0.mk (show w.rangeAt gb (j * 5) [.int .i64 q0, .int .i64 q1, .int .i64 q2, .int .i64 q3, .slice Aq Dq.length cq] by rw [Nat.mul_comm]; exact hrg)
  have HRQ := Aside0.mk (show w.rangeAt gb (j * 5) [.int .i64 q0, .int .i64 q1, .int .i64 q2, .int .i64 q3] from fun i v hi => HRG.out i v (by rcases i with _ | _ | _ | _ | i <;> first | exact hi | (simp at hi)))
  have HCQ := Aside0.mk hcq
  have HVQ := Aside0.mk hb.1.valid
  have HBQ := Aside0.mk hb.2.1
  have HJM := Aside0.mk (And.intro hj hjm)
  clear hb hcq hrg hp hj hjm
  go_upto_region 10 with (fail)
  go_cut [77] (fun v77 wc => v77 = .bool false ∧ Aside0 (Hold w.heap.size w wc [(g10, 26, #[.int .i64 0, .int .i64 0, .int .i64 0, .int .i64 0, .slice none 0 0]), (g9, 28, #[.int .i64 kk]), (g7, 3, #[.int .i64 (n : Int)]), (g6, 23, #[.int .i64 x0, .int .i64 y0, .int .i64 x1, .int .i64 y1]), (g5, 32, #[.slice (some ⟨gb, 0, none⟩) N cN])] []))
  case first =>
   replace K := Aside0.mk (K.out.drew)
   refine start_ (n := 18) (S := fun w' => w'.cell? ⟨g5, 0, none⟩ = some (.slice (some ⟨gb, 0, none⟩) N cN) ∧ w'.heap[g6]? = some (.cells #[.int .i64 x0, .int .i64 y0, .int .i64 x1, .int .i64 y1] 23 (0, 0)) ∧ w'.cell? ⟨g7, 0, none⟩ = some (.int .i64 (n : Int)) ∧ w'.rangeAt gb (j * 5) [.int .i64 q0, .int .i64 q1, .int .i64 q2, .int .i64 q3, .slice Aq Dq.length cq] ∧ w'.rangeAt gb (j * 5) [.int .i64 q0, .int .i64 q1, .int .i64 q2, .int .i64 q3]) (ds := []) #[false, false, false, false, false, false, false, false, false, false, false, false, false, false, false, false, false, false] (by kernel_rfl) rfl rfl ⟨K.out.cell 4 rfl 0 rfl, K.out.get 3 rfl, K.out.cell 2 rfl 0 rfl, range_below HRG.out K.out.below, range_below HRQ.out K.out.below⟩ (fun hHeld0 => ?_)
   generalize hw2 : wr.drew = w2 at *
   clear hw2
   have hHeld := Aside0.mk hHeld0
   clear hHeld0
   refine tT (i := 0) (N := some 60) (v := ?_) hHeld.out ?_
   refine pT (i := 1) (N := some 61) ?_
   refine pT (i := 2) (N := some 62) ?_
   refine take_ (i := 3) (N := some 63) (v := .agg #[.int .i64 q0, .int .i64 q1, .int .i64 q2, .int .i64 q3, .slice Aq Dq.length cq]) (a' := ?_) #[true, true, true, true, false, false, false, false, false, false, false, false, false, false, false, false, false, false] rfl rfl (by kernel_rfl) (fun _ _ _ h => h) (load_range_yields (cs := [.int .i64 q0, .int .i64 q1, .int .i64 q2, .int .i64 q3, .slice Aq Dq.length cq]) (by rfl) 26 (.tmp 62) rfl rfl (fun _ h => h.2.2.2.1) Try.underlying26 rfl rfl) hHeld.out ?_ ?_
   rotate_left
   ·simp only [Act.put, List.setIfInBounds_toArray, List.set_cons_zero, List.set_cons_succ, i64_w, i32_w]
    rfl
   refine one_ (i := 4) (N := some 64) #[true, true, true, true, true, false, false, false, false, false, false, false, false, false, false, false, false, false] rfl rfl (by kernel_rfl) (by decide) (fun KC hK => ?_)
   refine goes_ Try.func25 (by kernel_rfl) rfl #[.agg #[.int .i64 q0, .int .i64 q1, .int .i64 q2, .int .i64 q3, .slice Aq Dq.length cq]] (by rfl) rfl rfl (by simp only [List.map_toArray, List.map_cons, List.map_nil]; rfl) ?_
   refine (plane_Valid.calls q0 q1 q2 q3 Aq cq Dq true _ (Kd.C_below HCQ.out.2 K.out.below) HCQ.out.1 HVQ.out).mono ?_
   rintro _ w3 ⟨rfl, b⟩
   refine ⟨_, rfl, ?_⟩
   replace K := Aside0.mk (K.out.call (below_size K.out.below) b)
   clear b hHeld
   refine hK.out _ _ ⟨K.out.cell 4 rfl 0 rfl, K.out.get 3 rfl, K.out.cell 2 rfl 0 rfl, range_below HRG.out K.out.below, range_below HRQ.out K.out.below⟩ (fun hHeld0 => ?_)
   have hHeld := Aside0.mk hHeld0
   clear hHeld0
   clear hK KC
   refine nT ?_
   refine pT (i := 5) (N := some 65) ?_
   refine pT (i := 6) (N := some 66) ?_
   refine tT (i := 7) (N := some 67) (v := ?_) hHeld.out ?_
   refine pT (i := 8) (N := some 68) ?_
   refine pT (i := 9) (N := some 69) ?_
   refine pT (i := 10) (N := some 70) ?_
   refine take_ (i := 11) (N := some 71) (v := .agg #[.int .i64 q0, .int .i64 q1, .int .i64 q2, .int .i64 q3]) (a' := ?_) #[true, true, true, true, true, true, true, true, true, true, true, true, false, false, false, false, false, false] rfl rfl (by kernel_rfl) (fun _ _ _ h => h) (load_range_yields (cs := [.int .i64 q0, .int .i64 q1, .int .i64 q2, .int .i64 q3]) (by rfl) 23 (.tmp 70) rfl rfl (fun _ h => h.2.2.2.2) Try.underlying23 rfl rfl) hHeld.out ?_ ?_
   rotate_left
   ·simp only [Act.put, List.setIfInBounds_toArray, List.set_cons_zero, List.set_cons_succ, i64_w, i32_w]
    rfl
   refine take_ (i := 12) (N := some 72) (v := .agg #[.int .i64 x0, .int .i64 y0, .int .i64 x1, .int .i64 y1]) (a' := ?_) #[true, true, true, true, true, true, true, true, true, true, true, true, true, false, false, false, false, false] rfl rfl (by kernel_rfl) (fun _ _ _ h => h) (load_all_yields (by rfl) 23 (.tmp 6) rfl rfl (fun _ h => h.2.1) Try.underlying23 rfl rfl) hHeld.out ?_ ?_
   rotate_left
   ·simp only [Act.put, List.setIfInBounds_toArray, List.set_cons_zero, List.set_cons_succ, i64_w, i32_w]
    rfl
   refine tT (i := 13) (N := some 73) (v := ?_) hHeld.out ?_
   refine pT (i := 14) (N := some 74) ?_
   refine one_ (i := 15) (N := some 75) #[true, true, true, true, true, true, true, true, true, true, true, true, true, true, true, true, false, false] rfl rfl (by kernel_rfl) (by decide) (fun KC hK => ?_)
   refine goes_ Try.func39 (by kernel_rfl) rfl #[.agg #[.int .i64 x0, .int .i64 y0, .int .i64 x1, .int .i64 y1], .int .i64 (n : Int), .int .i64 (j : Int)] (by rfl) rfl rfl (by simp only [List.map_toArray, List.map_cons, List.map_nil]; rfl) ?_
   refine (pyramid_Band.good x0 y0 x1 y1 (n : Int) (j : Int) q0 q1 q2 q3 _ HBQ.out).mono ?_
   rintro _ w4 ⟨rfl, b⟩
   refine ⟨_, rfl, ?_⟩
   replace K := Aside0.mk (K.out.call (below_size K.out.below) b)
   clear b hHeld
   refine hK.out _ _ ⟨K.out.cell 4 rfl 0 rfl, K.out.get 3 rfl, K.out.cell 2 rfl 0 rfl, range_below HRG.out K.out.below, range_below HRQ.out K.out.below⟩ (fun hHeld0 => ?_)
   have hHeld := Aside0.mk hHeld0
   clear hHeld0
   clear hK KC
   refine nT ?_
   refine pT (i := 16) (N := some 76) ?_
   refine pT (i := 17) (N := some 77) ?_
   refine done_ (by kernel_rfl) ?_
   clear hHeld
   go_wp2
   go_meet
   case rel => exact ⟨rfl, ⟨K.out⟩⟩
  case rest =>
  obtain ⟨rfl, K⟩ := hcut
  go_wp2
  go_roundg (m - j)
  case measure => have := HJM.out; omega
  case rel => exact ⟨j + 1, by first | rfl | rw [hwj], by have := HJM.out; omega, ⟨K.out⟩⟩
 ·have hb0 : decide ((j : Int) ≤ (m : Int)) = false := decide_eq_false (by omega)
  have hb0' : decide (j ≤ m) = false := decide_eq_false hjm
  clear hj hjm
  go_wp2
  have HW3 := Aside0.mk hw3
  clear hb0 hb0' hw3
  go_loopg [13] (m + 1) (fun kq v13 w' => ∃ j : Nat, v13 = .int .i64 (j : Int) ∧ j + kq = m + 1 ∧ Aside0 (Hold w.heap.size w w' [(g10, 26, #[.int .i64 0, .int .i64 0, .int .i64 0, .int .i64 0, .slice none 0 0]), (g9, 28, #[.int .i64 kk]), (g7, 3, #[.int .i64 (n : Int)]), (g6, 23, #[.int .i64 x0, .int .i64 y0, .int .i64 x1, .int .i64 y1]), (g5, 32, #[.slice (some ⟨gb, 0, none⟩) N cN])] []))
  case atStart => exact ⟨0, rfl, by omega, ⟨K.out⟩⟩
  case round =>
  clear K
  obtain ⟨j, rfl, hj, K⟩ := hrel
  by_cases hjm : j ≤ m
  ·have hb0 : decide ((j : Int) ≤ wrap64 (3 * (res : Int))) = true := by rw [HW3.out]; exact decide_eq_true (by omega)
   have hl1 : ((j : Int) < (N : Int)) = True := eq_true (by have := HM3.out; omega)
   have hl2 : (j < N) = True := eq_true (by have := HM3.out; omega)
   have hwj : wrap64 ((j : Int) + 1) = ((j + 1 : Nat) : Int) := by have := HM3.out; have := HNP.out; have := HNN.out; unfold wrap64; omega
   obtain ⟨p, hp⟩ : ∃ p, ps[j]? = some p := ⟨_, List.getElem?_eq_getElem (show j < ps.length by have := HNP.out; have := HM3.out; omega)⟩
   have hb := HALL.out j p (by have := HM3.out; omega) hp
   have hrg := HBD.out.cells j p hp
   obtain ⟨Aq, cq, hpv, hcq⟩ := HBD.out.data j p hp
   obtain ⟨pv, q0, q1, q2, q3, Dq⟩ := p
   dsimp only at hpv hcq hb
   subst hpv
   obtain ⟨ke, hke⟩ := hb.2.2
   have HRG := Aside0.mk (show w.cell? ⟨gb, j * 5 + 4, none⟩ = some (.slice Aq Dq.length cq) by rw [Nat.mul_comm]; exact hrg 4 _ rfl)
   have HCQ := Aside0.mk hcq
   have HKE := Aside0.mk hke
   have HJM := Aside0.mk (And.intro hj hjm)
   clear hb hcq hrg hp hj hjm hke
   have p5 : wr.cell? ⟨g5, 0, none⟩ = some (.slice (some ⟨gb, 0, none⟩) N cN) := K.out.cell 4 rfl 0 rfl
   have pb : wr.cell? ⟨gb, j * 5 + 4, none⟩ = some (.slice Aq Dq.length cq) := range_below (cs := [.slice Aq Dq.length cq]) (i := j * 5 + 4) (fun i v hi => by rcases i with _ | i; (rw [← hi]; exact HRG.out); simp at hi) K.out.below 0 _ rfl
   go_wp2_with (first
    | (go_at_call 28; (with_reducible refine (pyramid_exceeds.calls ke Aq cq Dq 4294967296 false _ (Kd.C_below HCQ.out.2 K.out.below) HCQ.out.1 HKE.out).mono ?_); rintro _ w28 ⟨rfl, b⟩; replace K := Aside0.mk (K.out.call (below_size K.out.below) b.below); clear b p5 pb))
   go_roundg (m - j)
   case measure => have := HJM.out; omega
   case rel => exact ⟨j + 1, by first | rfl | rw [hwj], by have := HJM.out; omega, ⟨K.out⟩⟩
  ·have hb0 : decide ((j : Int) ≤ wrap64 (3 * (res : Int))) = false := by rw [HW3.out]; exact decide_eq_false (by omega)
   clear hj hjm
   obtain ⟨p, hp⟩ : ∃ p, ps[0]? = some p := ⟨_, List.getElem?_eq_getElem (show 0 < ps.length by have := HNP.out; omega)⟩
   have hb := HALL.out 0 p (Nat.zero_le _) hp
   have hrg := HBD.out.cells 0 p hp
   obtain ⟨Aq, cq, hpv, hcq⟩ := HBD.out.data 0 p hp
   have hu0 : p.2 = u 0 := by have h := HU0.out; rw [List.getElem?_map, hp] at h; exact Option.some.inj h
   obtain ⟨pv, a0, e0, c0, f0, D0⟩ := p
   dsimp only at hpv hcq hb hu0
   subst hpv
   have HRG := Aside0.mk (show w.cell? ⟨gb, 4, none⟩ = some (.slice Aq D0.length cq) from hrg 4 _ rfl)
   have HRQ := Aside0.mk (show w.rangeAt gb 0 [.int .i64 a0, .int .i64 e0, .int .i64 c0, .int .i64 f0] from fun i v hi => hrg i v (by rcases i with _ | _ | _ | _ | i <;> first | exact hi | (simp at hi)))
   have HCQ := Aside0.mk hcq
   have HDL := Aside0.mk (show D0.length ≤ 1048576 by have h := hb.1.2.2; dsimp only at h; omega)
   have HUU := Aside0.mk hu0
   have hl1 : ((0 : Int) < (N : Int)) = True := eq_true (by have := HM3.out; omega)
   have hl2 : (0 < N) = True := eq_true (by have := HM3.out; omega)
   clear hb hcq hrg hp hu0
   go_upto_region 17 with (fail)
   clear hb0
   go_cut [14] (fun v14 wc => ∃ (g14 : Nat) (A9 : Option Addr) (d9 : Nat), v14 = .pointer (some ⟨g14, 0, none⟩) ∧ Aside0 (Hold w.heap.size w wc [(g14, 26, #[.int .i64 a0, .int .i64 e0, .int .i64 c0, .int .i64 f0, .slice A9 D0.length d9]), (g10, 26, #[.int .i64 0, .int .i64 0, .int .i64 0, .int .i64 0, .slice none 0 0]), (g9, 28, #[.int .i64 kk]), (g7, 3, #[.int .i64 (n : Int)]), (g6, 23, #[.int .i64 x0, .int .i64 y0, .int .i64 x1, .int .i64 y1]), (g5, 32, #[.slice (some ⟨gb, 0, none⟩) N cN])] [(.slice A9 D0.length d9, D0)]))
   case first =>
    replace K := Aside0.mk (K.out.drew)
    refine start_ (n := 12) (S := fun w' => w'.cell? ⟨g5, 0, none⟩ = some (.slice (some ⟨gb, 0, none⟩) N cN) ∧ w'.cell? ⟨gb, 4, none⟩ = some (.slice Aq D0.length cq) ∧ w'.rangeAt gb 0 [.int .i64 a0, .int .i64 e0, .int .i64 c0, .int .i64 f0]) (ds := [11]) #[false, false, false, false, false, false, false, false, false, false, false, false] (by kernel_rfl) rfl rfl ⟨K.out.cell 4 rfl 0 rfl, range_below (cs := [.slice Aq D0.length cq]) (i := 4) (fun i v hi => by rcases i with _ | i; (rw [← hi]; exact HRG.out); simp at hi) K.out.below 0 _ rfl, range_below HRQ.out K.out.below⟩ (fun hHeld0 => ?_)
    generalize hw2 : wr.drew = w2 at *
    clear hw2
    have hHeld := Aside0.mk hHeld0
    clear hHeld0
    refine tT (i := 0) (N := some 92) (v := ?_) hHeld.out ?_
    refine pT (i := 1) (N := some 93) ?_
    refine pT (i := 2) (N := some 94) ?_
    refine take_ (i := 3) (N := some 95) (v := .agg #[.int .i64 a0, .int .i64 e0, .int .i64 c0, .int .i64 f0]) (a' := ?_) #[true, true, true, true, false, false, false, false, false, false, false, false] rfl rfl (by kernel_rfl) (fun _ _ _ h => h) (load_range_yields (cs := [.int .i64 a0, .int .i64 e0, .int .i64 c0, .int .i64 f0]) (by rfl) 23 (.tmp 94) rfl rfl (fun _ h => h.2.2) Try.underlying23 rfl rfl) hHeld.out ?_ ?_
    rotate_left
    ·simp only [Act.put, List.setIfInBounds_toArray, List.set_cons_zero, List.set_cons_succ, i64_w, i32_w]
     rfl
    refine tT (i := 4) (N := some 96) (v := ?_) hHeld.out ?_
    refine pT (i := 5) (N := some 97) ?_
    refine pT (i := 6) (N := some 98) ?_
    refine tT (i := 7) (N := some 99) (v := ?_) hHeld.out ?_
    refine two_ (i := 8) (j := 10) (Ni := some 100) (Nj := some 14) #[true, true, true, true, true, true, true, true, true, false, false, false] #[true, true, true, true, true, true, true, true, false, false, true, false] rfl rfl rfl rfl (by kernel_rfl) (by decide) (by decide) (fun KC hK => ?_) (fun KC hK => ?_)
    ·skip
     refine Kd.R_append_rows_step (Kd.int .i64) (w0 := w2) w2.heap.size (by rfl) (.const (.slice none 0 0)) (.tmp 99) 24 3 (.int .i64 0) 8 rfl Try.underlying24 info3 rfl (by decide) (by omega) (.slice none 0 0) [] D0 Aq D0.length cq (fun _ => True) (fun _ => False) rfl rfl (Kd.R_nil _ _ _ _ _) (Kd.C_below HCQ.out.2 K.out.below) (fun _ _ h => h) (fun _ h => h.elim) (fun _ _ => trivial) (Below.refl _ _) (Nat.le_refl _) (by have := HDL.out; simp; omega) ?_
     intro v0 w5 ho hb hg hat
     rw [List.nil_append] at ho
     obtain ⟨A9, d9, rfl⟩ := Kd.R_slice ho
     replace K := Aside0.mk (K.out.add (below_size K.out.below) ho hb)
     clear ho hb hg hat hHeld
     refine hK.out _ _ ⟨K.out.cell 4 rfl 0 rfl, range_below (cs := [.slice Aq D0.length cq]) (i := 4) (fun i v hi => by rcases i with _ | i; (rw [← hi]; exact HRG.out); simp at hi) K.out.below 0 _ rfl, range_below HRQ.out K.out.below⟩ (fun hHeld0 => ?_)
     have hHeld := Aside0.mk hHeld0
     clear hHeld0
     clear hK KC
     refine nT ?_
     refine pT (i := 9) (N := some 101) ?_
     refine one_ (i := 10) (N := some 14) #[true, true, true, true, true, true, true, true, true, true, true, false] rfl rfl (by kernel_rfl) (by decide) (fun KC hK => ?_)
     refine box_step ?hg (N := 14) ?hd (cs := #[.int .i64 0, .int .i64 0, .int .i64 0, .int .i64 0, .slice none 0 0]) (t := 26) ?hr ?_
     case hd => rfl
     case hg => rfl
     case hr => first | (go_simp; done) | (go_simp; rfl)
     intro g14 hg w4 hbox hb
     replace K := Aside0.mk (K.out.box (below_size K.out.below) hg hbox hb trivial)
     clear hg hbox hb hHeld
     refine hK.out _ _ ⟨K.out.cell 5 rfl 0 rfl, range_below (cs := [.slice Aq D0.length cq]) (i := 4) (fun i v hi => by rcases i with _ | i; (rw [← hi]; exact HRG.out); simp at hi) K.out.below 0 _ rfl, range_below HRQ.out K.out.below⟩ (fun hHeld0 => ?_)
     have hHeld := Aside0.mk hHeld0
     clear hHeld0
     clear hK KC
     refine nT ?_
     refine last_ (i := 11) (N := none) #[true, true, true, true, true, true, true, true, true, true, true, true] rfl rfl (by kernel_rfl) (by decide) (fun KC hK => ?_)
     refine store_step (cs := #[.int .i64 a0, .int .i64 e0, .int .i64 c0, .int .i64 f0, .slice A9 D0.length d9]) (by rfl) rfl 26 (.tmp 14) (.tmp 101) rfl rfl (by kernel_rfl) (K.out.get 0 rfl) rfl rfl (by first | (kernel_rfl) | (simp [Value.oneCell'])) ?_
     intro WS hs
     refine hK.out _ _ ?_
     replace K := Aside0.mk (K.out.stored 0 rfl hs)
     clear hK KC hs hHeld
     refine done_ (by kernel_rfl) ?_
     go_wp2
     go_meet
     case rel => exact ⟨_, _, _, rfl, ⟨K.out⟩⟩
    ·skip
     refine box_step ?hg (N := 14) ?hd (cs := #[.int .i64 0, .int .i64 0, .int .i64 0, .int .i64 0, .slice none 0 0]) (t := 26) ?hr ?_
     case hd => rfl
     case hg => rfl
     case hr => first | (go_simp; done) | (go_simp; rfl)
     intro g14 hg w4 hbox hb
     replace K := Aside0.mk (K.out.box (below_size K.out.below) hg hbox hb trivial)
     clear hg hbox hb hHeld
     refine hK.out _ _ ⟨K.out.cell 5 rfl 0 rfl, range_below (cs := [.slice Aq D0.length cq]) (i := 4) (fun i v hi => by rcases i with _ | i; (rw [← hi]; exact HRG.out); simp at hi) K.out.below 0 _ rfl, range_below HRQ.out K.out.below⟩ (fun hHeld0 => ?_)
     have hHeld := Aside0.mk hHeld0
     clear hHeld0
     clear hK KC
     refine nT ?_
     refine one_ (i := 8) (N := some 100) #[true, true, true, true, true, true, true, true, true, false, true, false] rfl rfl (by kernel_rfl) (by decide) (fun KC hK => ?_)
     refine Kd.R_append_rows_step (Kd.int .i64) (w0 := w4) w4.heap.size (by rfl) (.const (.slice none 0 0)) (.tmp 99) 24 3 (.int .i64 0) 8 rfl Try.underlying24 info3 rfl (by decide) (by omega) (.slice none 0 0) [] D0 Aq D0.length cq (fun _ => True) (fun _ => False) rfl rfl (Kd.R_nil _ _ _ _ _) (Kd.C_below HCQ.out.2 K.out.below) (fun _ _ h => h) (fun _ h => h.elim) (fun _ _ => trivial) (Below.refl _ _) (Nat.le_refl _) (by have := HDL.out; simp; omega) ?_
     intro v0 w5 ho hb hg hat
     rw [List.nil_append] at ho
     obtain ⟨A9, d9, rfl⟩ := Kd.R_slice ho
     replace K := Aside0.mk (K.out.add (below_size K.out.below) ho hb)
     clear ho hb hg hat hHeld
     refine hK.out _ _ ⟨K.out.cell 5 rfl 0 rfl, range_below (cs := [.slice Aq D0.length cq]) (i := 4) (fun i v hi => by rcases i with _ | i; (rw [← hi]; exact HRG.out); simp at hi) K.out.below 0 _ rfl, range_below HRQ.out K.out.below⟩ (fun hHeld0 => ?_)
     have hHeld := Aside0.mk hHeld0
     clear hHeld0
     clear hK KC
     refine nT ?_
     refine pT (i := 9) (N := some 101) ?_
     refine last_ (i := 11) (N := none) #[true, true, true, true, true, true, true, true, true, true, true, true] rfl rfl (by kernel_rfl) (by decide) (fun KC hK => ?_)
     refine store_step (cs := #[.int .i64 a0, .int .i64 e0, .int .i64 c0, .int .i64 f0, .slice A9 D0.length d9]) (by rfl) rfl 26 (.tmp 14) (.tmp 101) rfl rfl (by kernel_rfl) (K.out.get 0 rfl) rfl rfl (by first | (kernel_rfl) | (simp [Value.oneCell'])) ?_
     intro WS hs
     refine hK.out _ _ ?_
     replace K := Aside0.mk (K.out.stored 0 rfl hs)
     clear hK KC hs hHeld
     refine done_ (by kernel_rfl) ?_
     go_wp2
     go_meet
     case rel => exact ⟨_, _, _, rfl, ⟨K.out⟩⟩
   case rest =>
   obtain ⟨g14, A9, d9, rfl, K⟩ := hcut
   have hmf : ∀ (fn : Fn) (first cap : Array Value) (w : World), (Instr.makeFunc fn first cap).run Try.prog w = .ok (.func fn first cap) w := fun _ _ _ _ => rfl
   clear hl1 hl2 HRG HRQ HCQ HDL
   go_wp2
   go_loopg [16] res (fun kq v16 w' => ∃ (q : Nat) (p : Pl) (A9 : Option Addr) (d9 : Nat), v16 = .int .i64 ((q + 1 : Nat) : Int) ∧ q + kq = res ∧ Aside0 (p = u q) ∧ Aside0 (Hold w.heap.size w w' [(g14, 26, #[.int .i64 p.x0, .int .i64 p.y0, .int .i64 p.x1, .int .i64 p.y1, .slice A9 p.D.length d9]), (g10, 26, #[.int .i64 0, .int .i64 0, .int .i64 0, .int .i64 0, .slice none 0 0]), (g9, 28, #[.int .i64 kk]), (g7, 3, #[.int .i64 (n : Int)]), (g6, 23, #[.int .i64 x0, .int .i64 y0, .int .i64 x1, .int .i64 y1]), (g5, 32, #[.slice (some ⟨gb, 0, none⟩) N cN])] [(.slice A9 p.D.length d9, p.D)]))
   case atStart => exact ⟨0, ⟨a0, e0, c0, f0, D0⟩, A9, d9, rfl, by omega, HUU, ⟨K.out⟩⟩
   case round =>
   clear K HUU
   obtain ⟨q, p, A8, d8, rfl, hq, HPU, K⟩ := hrel
   obtain ⟨z, hz⟩ : ∃ z : Int, z = ((q + 1 : Nat) : Int) := ⟨_, rfl⟩
   rw [← hz]
   by_cases hqr : q < res
   ·have hb0 : decide (z ≤ (res : Int)) = true := decide_eq_true (by omega)
    have hwz : wrap64 (z + 1) = ((q + 1 + 1 : Nat) : Int) := by have := HNN.out; unfold wrap64; omega
    have hst := HUS.out q hqr
    rw [← HPU.out] at hst
    obtain ⟨krq, a1, c1, e1, f1, D1, D2, D3, h1, h2, h3, hrs, hmt⟩ := hst
    have hx : ∀ (j : Nat) (pl : Pl), (ps.map (·.2))[j]? = some pl → ∃ (A : Option Addr) (c : Nat), ps[j]? = some (.slice A pl.D.length c, pl) := fun j pl hj => by
     rw [List.getElem?_map] at hj
     obtain ⟨pp, e1, e2⟩ := Option.map_eq_some_iff.mp hj
     obtain ⟨A, c, e3, _⟩ := HBD.out.data j pp e1
     subst e2
     exact ⟨A, c, by rw [e1, ← e3]⟩
    obtain ⟨B1, b1, hp1⟩ := hx _ _ h1
    obtain ⟨B2, b2, hp2⟩ := hx _ _ h2
    obtain ⟨B3, b3, hp3⟩ := hx _ _ h3
    obtain ⟨X, hX⟩ : ∃ X, X = u (q + 1) := ⟨_, rfl⟩
    rw [← hX] at hrs hmt
    have HP1 := Aside0.mk hp1
    have HP2 := Aside0.mk hp2
    have HP3 := Aside0.mk hp3
    have HRS := Aside0.mk hrs
    have HMT := Aside0.mk hmt
    have HXX := Aside0.mk hX
    have HZQ := Aside0.mk (show z = ((q + 1 : Nat) : Int) ∧ q ≤ 5 by have := HNN.out; omega)
    have HQN := Aside0.mk (show 3 * q + 3 < N by have := HNN.out; have := HNP.out; omega)
    have HQR := Aside0.mk (And.intro hq hqr)
    clear hx h1 h2 h3 hp1 hp2 hp3 hrs hmt hX hz hq hqr
    obtain ⟨a0, e0, c0, f0, D0⟩ := p
    obtain ⟨X0, Y0, X1, Y1, G⟩ := X
    dsimp only at *
    go_wp2_with (first
     | (go_at_call 40; refine (pyramid_Syn1.good krq q (n : Int) z kk x0 y0 x1 y1 X0 Y0 X1 Y1 a0 a1 c0 c1 e0 e1 f0 f1 A8 B1 B2 B3 d8 b1 b2 b3 D0 D1 D2 D3 G ps w.heap.size gb N cN g14 g10 g9 g7 g6 g5 w _ HBD.out rfl HZQ.out HQN.out HP1.out HP2.out HP3.out (by rw [HZQ.out.1]; exact HRS.out) HMT.out K.out).mono ?_; rintro _ w40 ⟨rfl, A9, d9, hH⟩; clear K; have K := Aside0.mk hH; clear hH))
    go_roundg (res - q - 1)
    case measure => have := HQR.out; omega
    case rel => exact ⟨q + 1, ⟨X0, Y0, X1, Y1, G⟩, A9, d9, by first | rfl | rw [hwz], by have := HQR.out; omega, HXX, ⟨K.out⟩⟩
   ·have hb0 : decide (z ≤ (res : Int)) = false := decide_eq_false (by omega)
    obtain rfl : q = res := by omega
    have hpu := HPU.out
    subst hpu
    clear hz hq hqr HPU
    go_wp2_with (first
     | ((with_reducible refine gate_dst (N := 115) rfl ?_); refine load_ev rfl 26 (.tmp 14) rfl rfl (K.out.get 0 rfl) Try.underlying26 rfl ?_)
     | ((with_reducible refine gate_store (t := 26) (p := 10) (v := .tmp 115) rfl ?_); refine store_ev rfl rfl 26 (.tmp 10) (.tmp 115) rfl rfl rfl (K.out.get 1 rfl) rfl rfl (by first | (kernel_rfl) | (simp [Value.oneCell'])) ?_; intro W8 hs; replace K := Aside0.mk (K.out.stored 1 rfl hs); clear hs))
    refine bodyPost_ret (results_ct rfl _ _ g10 26 _ (0, 0) _ rfl (K.out.get 1 rfl) Try.underlying26 rfl (by kernel_rfl)) rfl ?_
    exact ⟨_, rfl, K.out.noBlk⟩
end Go.Proofs.Ytcnpekpgghppnaa.Q
namespace Go.Proofs.Ytcnpekpgghppnaa.Q
open Go.RowKit Go.Proofs.YtcnpekpgghppnaaW.PrintWords Go.Proofs.YtcnpekpgghppnaaW.PrintLast Go.Proofs.YtcnpekpgghppnaaW.PrintMore
set_option linter.unusedVariables false
set_option linter.unusedSimpArgs false
/-- How large the numbers are, so many levels ahead. -/
def bta : Nat → Int
 | 0 => 2500000000
 | 1 => 400000000
 | 2 => 64000000
 | 3 => 10240000
 | 4 => 1638400
 | _ => 262144
theorem bta_step {n : Nat} (h : n < 5) : ∃ c, bta (n + 1) = 4 * c ∧ 25 * c = bta n ∧ 1 ≤ c ∧ c ≤ 1099511627776 := by
 have : n = 0 ∨ n = 1 ∨ n = 2 ∨ n = 3 ∨ n = 4 := by omega
 rcases this with rfl | rfl | rfl | rfl | rfl
 ·exact ⟨100000000, by decide⟩
 ·exact ⟨16000000, by decide⟩
 ·exact ⟨2560000, by decide⟩
 ·exact ⟨409600, by decide⟩
 ·exact ⟨65536, by decide⟩
theorem bta_le (n : Nat) : 262144 ≤ bta n ∧ bta n ≤ 2500000000 := by
 unfold bta
 split <;> decide
/-- A step of the synthesis, by halves. -/
def Stp (kk : Int) (bs : List Pl) (q : Nat) (p p' : Pl) : Prop :=
 ∃ D1 D2 D3 : List Int, bs[3 * q + 1]? = some ⟨p'.x0 / 2, (p'.y0 + 1) / 2, p'.x1 / 2, (p'.y1 + 1) / 2, D1⟩ ∧ bs[3 * q + 2]? = some ⟨(p'.x0 + 1) / 2, p'.y0 / 2, (p'.x1 + 1) / 2, p'.y1 / 2, D2⟩ ∧ bs[3 * q + 3]? = some ⟨p'.x0 / 2, p'.y0 / 2, p'.x1 / 2, p'.y1 / 2, D3⟩ ∧ (p.x0 = (p'.x0 + 1) / 2 ∧ p.y0 = (p'.y0 + 1) / 2 ∧ p.x1 = (p'.x1 + 1) / 2 ∧ p.y1 = (p'.y1 + 1) / 2) ∧ MergeTo kk p'.x0 p'.y0 p'.x1 p'.y1 p.x0 (p'.x0 / 2) p.x1 (p'.x1 / 2) p.y0 (p'.y0 / 2) p.y1 (p'.y1 / 2) p.D D1 D2 D3 p'.D
/-- A plane of numbers that are not too large. -/
def Fit (b : Int) (p : Pl) : Prop := PV p.x0 p.y0 p.x1 p.y1 p.D ∧ Bd b p.D
theorem ana_ok {kk : Int} (hkk : 1 ≤ kk ∧ kk ≤ 3) : ∀ (n : Nat) (p : Pl), n ≤ 5 → Fit (bta n) p → ∃ (bs : List Pl) (u : Nat → Pl), Ana kk n p bs ∧ u n = p ∧ bs[0]? = some (u 0) ∧ (∀ q, q < n → Stp kk bs q (u q) (u (q + 1))) ∧ (∀ b ∈ bs, Fit 2500000000 b) ∧ ∀ q, q ≤ n → Fit 2500000000 (u q)
 | 0, p, hn, hf => ⟨[p], fun _ => p, .zero p, rfl, rfl, fun q hq => absurd hq (Nat.not_lt_zero q), fun b hb => by
   obtain rfl : b = p := by simpa using hb
   exact ⟨hf.1, hf.2.mono (bta_le _).2⟩, fun q hq => ⟨hf.1, hf.2.mono (bta_le _).2⟩⟩
 | n + 1, p, hn, hf => by
  obtain ⟨c, c1, c2, c3, c4⟩ := bta_step (n := n) (by omega)
  obtain ⟨x0, y0, x1, y1, D⟩ := p
  obtain ⟨hv, hb⟩ := hf
  have hb0 := hb.mono (bta_le _).2
  rw [c1] at hb
  obtain ⟨G0, G1, G2, G3, hs, hm, g0, g1, g2, g3⟩ := split_ok hkk hv c3 c4 hb
  rw [c2] at g0 g1 g2 g3
  obtain ⟨bs, u, i1, i2, i3, i4, i5, i6⟩ := ana_ok hkk n ⟨(x0 + 1) / 2, (y0 + 1) / 2, (x1 + 1) / 2, (y1 + 1) / 2, G0⟩ (by omega) g0
  have hl := i1.len
  refine ⟨bs ++ [⟨x0 / 2, (y0 + 1) / 2, x1 / 2, (y1 + 1) / 2, G1⟩, ⟨(x0 + 1) / 2, y0 / 2, (x1 + 1) / 2, y1 / 2, G2⟩, ⟨x0 / 2, y0 / 2, x1 / 2, y1 / 2, G3⟩], fun q => if q ≤ n then u q else ⟨x0, y0, x1, y1, D⟩, .succ n x0 y0 x1 y1 D _ _ _ _ _ _ _ _ G0 G1 G2 G3 bs hs i1, if_neg (by omega), ?_, ?_, ?_, ?_⟩
  ·rw [List.getElem?_append_left (by omega), i3]
   show _ = some (if 0 ≤ n then u 0 else _)
   rw [if_pos (Nat.zero_le _)]
  ·intro q hq
   show Stp kk _ q (if q ≤ n then u q else _) (if q + 1 ≤ n then u (q + 1) else _)
   rw [if_pos (show q ≤ n by omega)]
   by_cases h : q < n
   ·rw [if_pos (show q + 1 ≤ n by omega)]
    obtain ⟨D1, D2, D3, s1, s2, s3, s4, s5⟩ := i4 q h
    exact ⟨D1, D2, D3, by rw [List.getElem?_append_left (by omega), s1], by rw [List.getElem?_append_left (by omega), s2], by rw [List.getElem?_append_left (by omega), s3], s4, s5⟩
   ·obtain rfl : q = n := by omega
    rw [if_neg (show ¬ q + 1 ≤ q by omega), i2]
    exact ⟨G1, G2, G3, by rw [List.getElem?_append_right (by omega), hl, Nat.sub_self]; rfl, by rw [List.getElem?_append_right (by omega), hl, show 3 * q + 2 - (3 * q + 1) = 1 by omega]; rfl, by rw [List.getElem?_append_right (by omega), hl, show 3 * q + 3 - (3 * q + 1) = 2 by omega]; rfl, ⟨rfl, rfl, rfl, rfl⟩, hm⟩
  ·intro b hb
   rcases List.mem_append.mp hb with hb | hb
   ·exact i5 b hb
   ·simp only [List.mem_cons, List.not_mem_nil, or_false] at hb
    rcases hb with rfl | rfl | rfl
    ·exact ⟨g1.1, g1.2.mono (bta_le _).2⟩
    ·exact ⟨g2.1, g2.2.mono (bta_le _).2⟩
    ·exact ⟨g3.1, g3.2.mono (bta_le _).2⟩
  ·intro q hq
   by_cases h : q ≤ n
   ·show Fit _ (if q ≤ n then u q else _)
    rw [if_pos h]
    exact i6 q h
   ·show Fit _ (if q ≤ n then u q else _)
    rw [if_neg h]
    exact ⟨hv, hb0⟩
/-- Halved d times, upwards. -/
def cd (d : Nat) (x : Int) : Int := (x + (2 ^ d : Nat) - 1) / (2 ^ d : Nat)
theorem cd_succ {d : Nat} (h : d < 5) (x : Int) : cd (d + 1) x = (cd d x + 1) / 2 := by
 have : d = 0 ∨ d = 1 ∨ d = 2 ∨ d = 3 ∨ d = 4 := by omega
 unfold cd
 rcases this with rfl | rfl | rfl | rfl | rfl <;> simp only [Nat.reducePow, Nat.reduceAdd] <;> omega
theorem cd_zero (x : Int) : cd 0 x = x := by
 unfold cd
 simp
theorem cd_le {d : Nat} (h : d ≤ 5) {x y : Int} (hx : 0 ≤ x) (hxy : x ≤ y) (hy : y ≤ 4096) : 0 ≤ cd d x ∧ cd d x ≤ cd d y ∧ cd d y ≤ 4096 := by
 have : d = 0 ∨ d = 1 ∨ d = 2 ∨ d = 3 ∨ d = 4 ∨ d = 5 := by omega
 unfold cd
 rcases this with rfl | rfl | rfl | rfl | rfl | rfl <;> simp only [Nat.reducePow, Nat.reduceAdd] <;> omega
theorem ceil_of {d : Nat} (h : d ≤ 5) {x : Int} (hx : 0 ≤ x) (hx1 : x ≤ 4096) : rect_CeilDiv.f x ((2 ^ d : Nat) : Int) = some (cd d x) := by
 unfold rect_CeilDiv.f cd
 have : d = 0 ∨ d = 1 ∨ d = 2 ∨ d = 3 ∨ d = 4 ∨ d = 5 := by omega
 rw [Int.tmod_eq_emod_of_nonneg hx, Int.tdiv_eq_ediv_of_nonneg hx]
 rcases this with rfl | rfl | rfl | rfl | rfl | rfl <;> simp only [Nat.reducePow] <;> rw [if_neg (by omega), if_neg (by omega)] <;> split <;> congr 1 <;> unfold wrap64 <;> omega
theorem lev_of : ∀ n : Fin 6, ∀ q : Fin 6, q ≤ n → pyramid_validLevels.f ((n.val : Nat) : Int) = some true ∧ IntKind.u64.wrap (wrap64 (((n.val : Nat) : Int) - ((q.val : Nat) : Int))) = ((n.val - q.val : Nat) : Int) ∧ shl .i64 1 ((n.val - q.val : Nat) : Int) = ((2 ^ (n.val - q.val) : Nat) : Int) := by decide +kernel
theorem res_of {n q : Nat} (hn : n ≤ 5) (hq : q ≤ n) {x0 y0 x1 y1 : Int} (hx : 0 ≤ x0 ∧ x0 ≤ x1 ∧ x1 ≤ 4096) (hy : 0 ≤ y0 ∧ y0 ≤ y1 ∧ y1 ≤ 4096) : pyramid_Resolution.f 1 x0 y0 x1 y1 (n : Int) (q : Int) = some (cd (n - q) x0, cd (n - q) y0, cd (n - q) x1, cd (n - q) y1) := by
 obtain ⟨h1, h2, h3⟩ := lev_of ⟨n, by omega⟩ ⟨q, by omega⟩ (by show q ≤ n; exact hq)
 simp only at h1 h2 h3
 have hp : (1 : Int) ≤ ((2 ^ (n - q) : Nat) : Int) ∧ ((2 ^ (n - q) : Nat) : Int) ≤ 4096 := by
  have : n - q = 0 ∨ n - q = 1 ∨ n - q = 2 ∨ n - q = 3 ∨ n - q = 4 ∨ n - q = 5 := by omega
  rcases this with h | h | h | h | h | h <;> rw [h] <;> decide
 unfold pyramid_Resolution.f
 rw [h1]
 simp only [Option.bind_some, if_true]
 rw [if_neg (by omega), if_neg (by omega), h2, h3, if_pos (by omega)]
 unfold rect_Reduce.f
 rw [rv_of hx hy]
 simp only [Option.bind_some, if_true]
 rw [if_neg (by omega), if_neg (by omega), if_neg (by omega), decide_eq_false (by omega)]
 rw [rect_Reduce.j0.eq_2, if_neg (by decide), ceil_of (by omega) hx.1 (by omega), ceil_of (by omega) hy.1 (by omega), ceil_of (by omega) (by omega) hx.2.2, ceil_of (by omega) (by omega) hy.2.2]
 rfl
theorem place_of : ∀ n : Fin 6, ∀ q : Fin 5, q.val < n.val → ∀ o : Fin 4, 1 ≤ o.val → pyramid_Place.f 1 ((3 * q.val + o.val : Nat) : Int) ((n.val : Nat) : Int) = some (((n.val - q.val : Nat) : Int), ((o.val : Nat) : Int), true) := by decide +kernel
theorem place_zero : ∀ n : Fin 6, pyramid_Place.f 1 0 ((n.val : Nat) : Int) = some (((n.val : Nat) : Int), 0, true) := by decide +kernel
theorem mirF_near (k : Nat) (last i c d : Int) (hk : 6 ≤ k) (h1 : 1 ≤ last) (h2 : last ≤ 1000000) (hi0 : 0 ≤ i) (hi1 : i ≤ last) (hd : d ≤ 3) (hc0 : -d ≤ c) (hc1 : c ≤ d) : ∃ m, mirF k last (i + c) = some m ∧ 0 ≤ m ∧ m ≤ last ∧ (m - (i + c)) % 2 = 0 ∧ -d ≤ m - i ∧ m - i ≤ d := by
 obtain ⟨k, rfl⟩ : ∃ q, k = q + 1 + 1 + 1 + 1 + 1 + 1 := ⟨k - 6, by omega⟩
 obtain ⟨p, hp⟩ : ∃ p, p = i + c := ⟨_, rfl⟩
 rw [← hp]
 by_cases c0 : p < 0
 ·rw [mir_neg c0 (by omega)]
  by_cases c1 : -p ≤ last
  ·exact ⟨_, mir_in (by omega) c1, by omega, c1, by omega, by omega, by omega⟩
  ·rw [mir_pos (by omega) (by omega) (by omega) (by omega)]
   by_cases c2 : 2 * last - -p < 0
   ·rw [mir_neg c2 (by omega)]
    exact ⟨_, mir_in (by omega) (by omega), by omega, by omega, by omega, by omega, by omega⟩
   ·exact ⟨_, mir_in (by omega) (by omega), by omega, by omega, by omega, by omega, by omega⟩
 ·by_cases c1 : p ≤ last
  ·exact ⟨_, mir_in (by omega) c1, by omega, c1, by omega, by omega, by omega⟩
  ·rw [mir_pos (by omega) (by omega) (by omega) (by omega)]
   by_cases c2 : 2 * last - p < 0
   ·rw [mir_neg c2 (by omega)]
    by_cases c3 : -(2 * last - p) ≤ last
    ·exact ⟨_, mir_in (by omega) c3, by omega, c3, by omega, by omega, by omega⟩
    ·rw [mir_pos (by omega) (by omega) (by omega) (by omega)]
     exact ⟨_, mir_in (by omega) (by omega), by omega, by omega, by omega, by omega, by omega⟩
   ·exact ⟨_, mir_in (by omega) (by omega), by omega, by omega, by omega, by omega, by omega⟩
theorem near2 (k n i : Nat) (c d : Int) (hk : 6 ≤ k) (h1 : 2 ≤ n) (h2 : n ≤ 1000000) (hi : i < n) (hd : d ≤ 3) (hc0 : -d ≤ c) (hc1 : c ≤ d) (hodd : c % 2 = 1) : ∃ m : Nat, m < n ∧ ((m : Int) - i) % 2 = 1 ∧ (-d ≤ (m : Int) - i ∧ (m : Int) - i ≤ d) ∧ ∀ xs : List Int, xs.length = n → atF k xs ((i : Int) + c) = some (rd xs (m : Int)) := by
 obtain ⟨m, hm, a, b, e, f, g⟩ := mirF_near k ((n : Int) - 1) (i : Int) c d hk (by omega) (by omega) (by omega) (by omega) hd hc0 hc1
 obtain ⟨q, rfl⟩ := Int.eq_ofNat_of_zero_le a
 refine ⟨q, by omega, by omega, ⟨f, g⟩, fun xs hx => ?_⟩
 unfold atF
 rw [hx, show wrap64 ((n : Int) - 1) = (n : Int) - 1 by unfold wrap64; omega, hm]
 simp only [Option.bind_some]
 rw [if_pos (by omega)]
/-- How far a prediction reaches. -/
def reach (kk : Int) : Int := if kk = 3 then 3 else 1
theorem reach_le (kk : Int) : 1 ≤ reach kk ∧ reach kk ≤ 3 := by unfold reach; split <;> omega
theorem pr_near (kk : Int) (k n : Nat) (hkk : 1 ≤ kk ∧ kk ≤ 3) (hk : 6 ≤ k) (h1 : 2 ≤ n) (h2 : n ≤ 1000000) {xs ys : List Int} (hx : xs.length = n) (hy : ys.length = n) {i : Nat} (hi : i < n) (h : ∀ j : Nat, j < n → ((j : Int) - i) % 2 = 1 → -(reach kk) ≤ (j : Int) - i → (j : Int) - i ≤ reach kk → rd xs (j : Int) = rd ys (j : Int)) : prF kk k xs (i : Int) = prF kk k ys (i : Int) := by
 have hr := reach_le kk
 obtain ⟨a, a1, a2, ⟨a3, a4⟩, a5⟩ := near2 k n i (-1) 1 hk h1 h2 hi (by omega) (by omega) (by omega) (by omega)
 obtain ⟨b, b1, b2, ⟨b3, b4⟩, b5⟩ := near2 k n i 1 1 hk h1 h2 hi (by omega) (by omega) (by omega) (by omega)
 have A := a5 xs hx
 have A' := a5 ys hy
 have B := b5 xs hx
 have B' := b5 ys hy
 rw [show (i : Int) + -1 = (i : Int) - 1 by omega] at A A'
 have ha := h a a1 a2 (by omega) (by omega)
 have hb := h b b1 b2 (by omega) (by omega)
 unfold prF
 by_cases e1 : kk = 1
 ·rw [if_pos e1]
  unfold pr1F
  rw [w2 (by omega) (by omega) (by omega), A, A', ha]
 ·rw [if_neg e1]
  by_cases e2 : kk = 2
  ·rw [if_pos e2]
   unfold pr2F
   rw [w2 (by omega) (by omega) (by omega), w1 (by omega) (by omega) (by omega), A, A', B, B', ha, hb]
  ·rw [if_neg e2]
   have e3 : kk = 3 := by omega
   have hr3 : reach kk = 3 := by unfold reach; rw [if_pos e3]
   obtain ⟨c, c1, c2, ⟨c3, c4⟩, c5⟩ := near2 k n i (-3) 3 hk h1 h2 hi (by omega) (by omega) (by omega) (by omega)
   obtain ⟨d, d1, d2, ⟨d3, d4⟩, d5⟩ := near2 k n i 3 3 hk h1 h2 hi (by omega) (by omega) (by omega) (by omega)
   have C := c5 xs hx
   have C' := c5 ys hy
   have D := d5 xs hx
   have D' := d5 ys hy
   rw [show (i : Int) + -3 = (i : Int) - 3 by omega] at C C'
   have hc := h c c1 c2 (by omega) (by omega)
   have hd := h d d1 d2 (by omega) (by omega)
   unfold pr3F
   rw [w2 (by omega) (by omega) (by omega), w1 (by omega) (by omega) (by omega), w2 (by omega) (by omega) (by omega), w1 (by omega) (by omega) (by omega), A, A', B, B', C, C', D, D', ha, hb, hc, hd]
theorem up_near (kk : Int) (k n : Nat) (hkk : 1 ≤ kk ∧ kk ≤ 3) (hk : 6 ≤ k) (h1 : 2 ≤ n) (h2 : n ≤ 1000000) {xs ys : List Int} (hx : xs.length = n) (hy : ys.length = n) {i : Nat} (hi : i < n) (h : ∀ j : Nat, j < n → ((j : Int) - i) % 2 = 1 → -1 ≤ (j : Int) - i → (j : Int) - i ≤ 1 → rd xs (j : Int) = rd ys (j : Int)) : upF kk k xs (i : Int) = upF kk k ys (i : Int) := by
 obtain ⟨a, a1, a2, ⟨a3, a4⟩, a5⟩ := near2 k n i (-1) 1 hk h1 h2 hi (by omega) (by omega) (by omega) (by omega)
 obtain ⟨b, b1, b2, ⟨b3, b4⟩, b5⟩ := near2 k n i 1 1 hk h1 h2 hi (by omega) (by omega) (by omega) (by omega)
 have A := a5 xs hx
 have A' := a5 ys hy
 have B := b5 xs hx
 have B' := b5 ys hy
 rw [show (i : Int) + -1 = (i : Int) - 1 by omega] at A A'
 have ha := h a a1 a2 (by omega) (by omega)
 have hb := h b b1 b2 (by omega) (by omega)
 unfold upF
 by_cases e1 : kk = 1
 ·rw [if_pos e1]
  unfold up1F
  rw [w1 (by omega) (by omega) (by omega), B, B', hb]
 ·rw [if_neg e1]
  unfold up2F
  rw [w2 (by omega) (by omega) (by omega), w1 (by omega) (by omega) (by omega), A, A', B, B', ha, hb]
def evA (start : Int) (i : Nat) : Int := (start + i + 1) / 2 - (start + 1) / 2
def odA (start : Int) (i : Nat) : Int := (start + i) / 2 - start / 2
theorem ev_bd {s : Int} {i : Nat} (h0 : 0 ≤ s) (h1 : s ≤ 4096) (h2 : i ≤ 4096) : 0 ≤ evA s i ∧ evA s i ≤ 4097 := by unfold evA; omega
theorem od_bd {s : Int} {i : Nat} (h0 : 0 ≤ s) (h1 : s ≤ 4096) (h2 : i ≤ 4096) : 0 ≤ odA s i ∧ odA s i ≤ 4097 := by unfold odA; omega
theorem ev_e {s : Int} {i : Nat} (p : (s + i) % 2 = 0) : evA s (i + 1) = evA s i + 1 := by unfold evA; omega
theorem od_e {s : Int} {i : Nat} (p : (s + i) % 2 = 0) : odA s (i + 1) = odA s i := by unfold odA; omega
theorem ev_o {s : Int} {i : Nat} (p : ¬ (s + i) % 2 = 0) : evA s (i + 1) = evA s i := by unfold evA; omega
theorem od_o {s : Int} {i : Nat} (p : ¬ (s + i) % 2 = 0) : odA s (i + 1) = odA s i + 1 := by unfold odA; omega
theorem ev_lt {s : Int} {i n : Nat} (p : (s + i) % 2 = 0) (h : i < n) : evA s i < evA s n := by unfold evA; omega
theorem od_lt {s : Int} {i n : Nat} (p : ¬ (s + i) % 2 = 0) (h : i < n) : odA s i < odA s n := by unfold odA; omega
/-- The i-th number of a line that is joined. -/
def jn (start : Int) (lo hi : List Int) (i : Nat) : Int := if (start + i) % 2 = 0 then rd lo (evA start i) else rd hi (odA start i)
theorem joinF_spec {start : Int} {n : Nat} {lo hi : List Int} (hs0 : 0 ≤ start) (hs1 : start ≤ 4096) (hn : n ≤ 4096) (hlo : (lo.length : Int) = evA start n) (hhi : (hi.length : Int) = odA start n) :
  ∀ (k i : Nat) (x : List Int), x.length = n → i ≤ n → n < k + i → (∀ j : Nat, j < i → rd x (j : Int) = jn start lo hi j) → ∃ y, joinF start lo hi (n : Int) k (i : Int) (evA start i) (odA start i) x = some y ∧ y.length = n ∧ ∀ j : Nat, j < n → rd y (j : Int) = jn start lo hi j
 | 0, i, x, hx, h1, h2, h3 => by omega
 | k + 1, i, x, hx, h1, h2, h3 => by
  rw [joinF.eq_2]
  by_cases c : i < n
  ·rw [if_pos (by omega), if_pos (by omega), tmod_par hs0 hs1 (by omega) (by omega)]
   have hw : wrap64 ((i : Int) + 1) = ((i + 1 : Nat) : Int) := wid (by omega) (by omega)
   have hev := ev_bd hs0 hs1 (show i ≤ 4096 by omega)
   have hod := od_bd hs0 hs1 (show i ≤ 4096 by omega)
   by_cases p : (start + i) % 2 = 0
   ·have b1 : 0 ≤ evA start i ∧ evA start i < (lo.length : Int) := ⟨hev.1, by rw [hlo]; exact ev_lt p c⟩
    have e3 : wrap64 (evA start i + 1) = evA start (i + 1) := by
     rw [ev_e p]
     obtain ⟨h4, h5⟩ := hev
     generalize evA start i = q at h4 h5 ⊢
     exact wid (by omega) (by omega)
    have hx2 : ∀ j : Nat, j < i + 1 → rd (x.set i (rd lo (evA start i))) (j : Int) = jn start lo hi j := by
     intro j hj
     by_cases e : j = i
     ·subst e
      rw [rd_set_same (by omega)]
      unfold jn
      rw [if_pos p]
     ·rw [rd_set_ne (fun e2 => e e2.symm)]
      exact h3 j (by omega)
    rw [if_pos p, if_pos b1, hw, e3, ← od_e p, Int.toNat_natCast]
    exact joinF_spec hs0 hs1 hn hlo hhi k (i + 1) _ (by rw [List.length_set, hx]) (by omega) (by omega) hx2
   ·have b1 : 0 ≤ odA start i ∧ odA start i < (hi.length : Int) := ⟨hod.1, by rw [hhi]; exact od_lt p c⟩
    have e3 : wrap64 (odA start i + 1) = odA start (i + 1) := by
     rw [od_o p]
     obtain ⟨h4, h5⟩ := hod
     generalize odA start i = q at h4 h5 ⊢
     exact wid (by omega) (by omega)
    have hx2 : ∀ j : Nat, j < i + 1 → rd (x.set i (rd hi (odA start i))) (j : Int) = jn start lo hi j := by
     intro j hj
     by_cases e : j = i
     ·subst e
      rw [rd_set_same (by omega)]
      unfold jn
      rw [if_neg p]
     ·rw [rd_set_ne (fun e2 => e e2.symm)]
      exact h3 j (by omega)
    rw [if_neg p, if_pos b1, hw, e3, ← ev_o p, Int.toNat_natCast]
    exact joinF_spec hs0 hs1 hn hlo hhi k (i + 1) _ (by rw [List.length_set, hx]) (by omega) (by omega) hx2
  ·obtain rfl : i = n := by omega
   rw [if_neg (by omega)]
   exact ⟨x, rfl, hx, h3⟩
theorem jn_bd {start b : Int} {lo hi : List Int} {j : Nat} (h0 : 0 ≤ b) (hl : Bd b lo) (hh : Bd b hi) (hs0 : 0 ≤ start) : -b ≤ jn start lo hi j ∧ jn start lo hi j ≤ b := by
 unfold jn
 split
 ·have := hl.at_ h0 (evA start j).toNat
  rwa [Int.toNat_of_nonneg (by unfold evA; omega)] at this
 ·have := hh.at_ h0 (odA start j).toNat
  rwa [Int.toNat_of_nonneg (by unfold odA; omega)] at this
/-- Two lines put together: they are alike where what they are made of is alike all around. -/
theorem inv_pair {kk start b : Int} {k n : Nat} {lo hi lo' hi' : List Int} (hkk : 1 ≤ kk ∧ kk ≤ 3) (hs0 : 0 ≤ start) (hs1 : start ≤ 4096) (hn : n ≤ 4096) (hk : 4096 < k) (hlo : (lo.length : Int) = evA start n) (hhi : (hi.length : Int) = odA start n) (hlo' : lo'.length = lo.length) (hhi' : hi'.length = hi.length)
  (hb1 : 2 ≤ b) (hb2 : b ≤ 1125899906842624) (hl : Bd b lo) (hh : Bd b hi) (hl' : Bd b lo') (hh' : Bd b hi') :
  ∃ z z', invF kk k start lo hi = some z ∧ invF kk k start lo' hi' = some z' ∧ z.length = n ∧ z'.length = n ∧ Bd (4 * b) z ∧ Bd (4 * b) z' ∧ ∀ i : Nat, i < n → (∀ j : Nat, j < n → -(reach kk + 1) ≤ (j : Int) - i → (j : Int) - i ≤ reach kk + 1 → jn start lo hi j = jn start lo' hi' j) → rd z (i : Int) = rd z' (i : Int) := by
 have hsum : lo.length + hi.length = n := by unfold evA odA at *; omega
 obtain ⟨x, x1, x2, x3⟩ := joinF_spec hs0 hs1 hn hlo hhi k 0 (List.replicate n 0) (by simp) (by omega) (by omega) (fun j hj => absurd hj (Nat.not_lt_zero j))
 obtain ⟨x', x1', x2', x3'⟩ := joinF_spec (lo := lo') (hi := hi') hs0 hs1 hn (by rw [hlo']; exact hlo) (by rw [hhi']; exact hhi) k 0 (List.replicate n 0) (by simp) (by omega) (by omega) (fun j hj => absurd hj (Nat.not_lt_zero j))
 have z0 : evA start 0 = 0 := by unfold evA; omega
 have z1 : odA start 0 = 0 := by unfold odA; omega
 rw [z0, z1] at x1 x1'
 have hx : invF kk k start lo hi = if 1 < (x.length : Int) then (stepF (upF kk k) start 0 (-1) k 0 x).bind fun y => stepF (prF kk k) start 1 1 k 0 y else some x := by
  unfold invF
  rw [hsum, show (0 : Int) = ((0 : Nat) : Int) from rfl] at *
  rw [x1]
  rfl
 have hx' : invF kk k start lo' hi' = if 1 < (x'.length : Int) then (stepF (upF kk k) start 0 (-1) k 0 x').bind fun y => stepF (prF kk k) start 1 1 k 0 y else some x' := by
  unfold invF
  rw [hlo', hhi', hsum, show (0 : Int) = ((0 : Nat) : Int) from rfl] at *
  rw [x1']
  rfl
 rw [hx, hx']
 have bx : ∀ j : Nat, j < n → -b ≤ rd x (j : Int) ∧ rd x (j : Int) ≤ b := fun j hj => by rw [x3 j hj]; exact jn_bd (by omega) hl hh hs0
 have bx' : ∀ j : Nat, j < n → -b ≤ rd x' (j : Int) ∧ rd x' (j : Int) ≤ b := fun j hj => by rw [x3' j hj]; exact jn_bd (by omega) hl' hh' hs0
 have hr := reach_le kk
 by_cases c : 1 < n
 ·rw [if_pos (by omega), if_pos (by omega)]
  have op := pr_oth kk k n start 1 hkk (by omega) (by omega) (by omega)
  have ou := up_oth kk k n start 0 hkk (by omega) (by omega) (by omega)
  have key : ∀ x : List Int, x.length = n → (∀ j : Nat, j < n → -b ≤ rd x (j : Int) ∧ rd x (j : Int) ≤ b) → ∃ y z, stepF (upF kk k) start 0 (-1) k 0 x = some y ∧ stepF (prF kk k) start 1 1 k 0 y = some z ∧ y.length = n ∧ z.length = n ∧ Bd (4 * b) z ∧
    (∀ j : Nat, j < n → ((start + j) % 2 ≠ 0 → rd y (j : Int) = rd x (j : Int)) ∧ ((start + j) % 2 = 0 → ∃ v, upF kk k x (j : Int) = some v ∧ rd y (j : Int) = wrap64 (rd x (j : Int) + wrap64 (-1 * v)))) ∧
    (∀ j : Nat, j < n → ((start + j) % 2 ≠ 1 → rd z (j : Int) = rd y (j : Int)) ∧ ((start + j) % 2 = 1 → ∃ v, prF kk k y (j : Int) = some v ∧ rd z (j : Int) = wrap64 (rd y (j : Int) + wrap64 (1 * v)))) := by
   intro x hx hbx
   obtain ⟨y, y1, y2, _, y4⟩ := stepF_spec (sg := -1) hs0 hs1 hn ou k 0 x hx (by omega) (by omega)
   obtain ⟨z, z1, z2, _, z4⟩ := stepF_spec (sg := 1) hs0 hs1 hn op k 0 y y2 (by omega) (by omega)
   have hyb : Bd (2 * b) y := by
    refine Bd.of_rd fun j hj => ?_
    rw [y2] at hj
    have h0 := hbx j hj
    by_cases p : (start + j) % 2 = 0
    ·obtain ⟨v, hv, e⟩ := (y4 j (by omega) hj).2 p
     have hv' := up_bound (C := b) hkk (by omega) (by omega) (by omega) (by omega) (by omega) hx (fun q hq _ => hbx q hq) hj p hv
     rw [e, show wrap64 (rd x (j : Int) + wrap64 (-1 * v)) = rd x (j : Int) - v by unfold wrap64; omega]
     omega
    ·rw [(y4 j (by omega) hj).1 p]
     omega
   refine ⟨y, z, y1, z1, y2, z2, ?_, fun j hj => y4 j (by omega) hj, fun j hj => z4 j (by omega) hj⟩
   refine Bd.of_rd fun j hj => ?_
   rw [z2] at hj
   by_cases p : (start + j) % 2 = 1
   ·obtain ⟨v, hv, e⟩ := (z4 j (by omega) hj).2 p
    have hyj := (y4 j (by omega) hj).1 (by omega)
    have hxj := hbx j hj
    have hyb2 : Bd ((6 * b + 2) / 4) y := by
     refine Bd.of_rd fun q hq => ?_
     rw [y2] at hq
     have h0 := hbx q hq
     by_cases p2 : (start + q) % 2 = 0
     ·obtain ⟨v2, hv2, e2⟩ := (y4 q (by omega) hq).2 p2
      have hv' := up_bound (C := b) hkk (by omega) (by omega) (by omega) (by omega) (by omega) hx (fun q hq _ => hbx q hq) hq p2 hv2
      rw [e2, show wrap64 (rd x (q : Int) + wrap64 (-1 * v2)) = rd x (q : Int) - v2 by unfold wrap64; omega]
      omega
     ·rw [(y4 q (by omega) hq).1 p2]
      omega
    have hv' := pr_bound (C := (6 * b + 2) / 4) hkk (by omega) (by omega) (by omega) (by omega) (by omega) y2 hyb2 hj hv
    rw [e, hyj, show wrap64 (rd x (j : Int) + wrap64 (1 * v)) = rd x (j : Int) + v by unfold wrap64; omega]
    omega
   ·rw [(z4 j (by omega) hj).1 (by omega)]
    have := hyb.at_ (by omega) j
    omega
  obtain ⟨y, z, y1, zz1, y2, zz2, bz, Y, Z⟩ := key x x2 bx
  obtain ⟨y', z', y1', zz1', y2', zz2', bz', Y', Z'⟩ := key x' x2' bx'
  refine ⟨z, z', by rw [y1]; exact zz1, by rw [y1']; exact zz1', zz2, zz2', bz, bz', fun i hi hj => ?_⟩
  have hxx : ∀ j : Nat, j < n → -(reach kk + 1) ≤ (j : Int) - i → (j : Int) - i ≤ reach kk + 1 → rd x (j : Int) = rd x' (j : Int) := fun j h1 h2 h3 => by rw [x3 j h1, x3' j h1]; exact hj j h1 h2 h3
  have hyy : ∀ j : Nat, j < n → -(reach kk) ≤ (j : Int) - i → (j : Int) - i ≤ reach kk → rd y (j : Int) = rd y' (j : Int) := by
   intro j h1 h2 h3
   by_cases p : (start + j) % 2 = 0
   ·obtain ⟨v, hv, e⟩ := (Y j h1).2 p
    obtain ⟨v', hv', e'⟩ := (Y' j h1).2 p
    rw [up_near kk k n hkk (by omega) (by omega) (by omega) x2 x2' h1 (fun q q1 q2 q3 q4 => hxx q q1 (by omega) (by omega)), hv'] at hv
    obtain rfl := Option.some.inj hv
    rw [e, e', hxx j h1 (by omega) (by omega)]
   ·rw [(Y j h1).1 p, (Y' j h1).1 p, hxx j h1 (by omega) (by omega)]
  by_cases p : (start + i) % 2 = 1
  ·obtain ⟨v, hv, e⟩ := (Z i hi).2 p
   obtain ⟨v', hv', e'⟩ := (Z' i hi).2 p
   rw [pr_near kk k n hkk (by omega) (by omega) (by omega) y2 y2' hi (fun q q1 q2 q3 q4 => hyy q q1 q3 q4), hv'] at hv
   obtain rfl := Option.some.inj hv
   rw [e, e', hyy i hi (by omega) (by omega)]
  ·rw [(Z i hi).1 p, (Z' i hi).1 p, hyy i hi (by omega) (by omega)]
 ·rw [if_neg (by omega), if_neg (by omega)]
  refine ⟨x, x', rfl, rfl, x2, x2', Bd.of_rd fun j hj => by rw [x2] at hj; have := bx j hj; omega, Bd.of_rd fun j hj => by rw [x2'] at hj; have := bx' j hj; omega, fun i hi hj => ?_⟩
  rw [x3 i hi, x3' i hi]
  exact hj i hi (by omega) (by omega)
end Go.Proofs.Ytcnpekpgghppnaa.Q
