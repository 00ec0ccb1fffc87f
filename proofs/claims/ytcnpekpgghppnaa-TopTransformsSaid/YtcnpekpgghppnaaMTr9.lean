/- Texts of this session (words and printed walks, merged by wip/tools/merge.py) for the statement of the claim. -/
import Derived.Test.YtcnpekpgghppnaaMTr8
import Derived.Test.YtcnpekpgghppnaaMTr1
/- color.change of three planes. Printed by wip/tools of this session. -/
namespace Go.Proofs.Ytcnpekpgghppnaa.Q
open Go.RowKit Go.Proofs.YtcnpekpgghppnaaW.PrintWords Go.Proofs.YtcnpekpgghppnaaW.PrintLast Go.Proofs.YtcnpekpgghppnaaW.PrintMore
set_option linter.unusedVariables false
set_option linter.unusedSimpArgs false

/-- What the planes' numbers are turned to. -/
def chF (fq : Int → Int → Int → Int → Int × Int × Int) (t : Int) (sel : Int × Int × Int → Int) (D0 D1 D2 : List Int) (i : Nat) : List Int := (List.range D0.length).map fun j => if j < i then sel (fq t (rd D0 (j : Int)) (rd D1 (j : Int)) (rd D2 (j : Int))) else sel (rd D0 (j : Int), rd D1 (j : Int), rd D2 (j : Int))
theorem chF_rd {fq : Int → Int → Int → Int → Int × Int × Int} {t : Int} {sel : Int × Int × Int → Int} {D0 D1 D2 : List Int} {i j : Nat} (hj : j < D0.length) : rd (chF fq t sel D0 D1 D2 i) (j : Int) = if j < i then sel (fq t (rd D0 (j : Int)) (rd D1 (j : Int)) (rd D2 (j : Int))) else sel (rd D0 (j : Int), rd D1 (j : Int), rd D2 (j : Int)) := by
  rw [rd_nat (chF _ _ _ _ _ _ _) j, List.getD_eq_getElem?_getD, chF, List.getElem?_map, List.getElem?_range hj]
  rfl
theorem chF_set {fq : Int → Int → Int → Int → Int × Int × Int} {t : Int} (sel : Int × Int × Int → Int) {D0 D1 D2 : List Int} {i : Nat} (hi : i < D0.length) : (chF fq t sel D0 D1 D2 i).set i (sel (fq t (rd D0 (i : Int)) (rd D1 (i : Int)) (rd D2 (i : Int)))) = chF fq t sel D0 D1 D2 (i + 1) := by
  have hl : ∀ i, (chF fq t sel D0 D1 D2 i).length = D0.length := fun i => by simp [chF]
  refine ext_rd (by rw [List.length_set, hl, hl]) fun q hq => ?_
  rw [List.length_set, hl] at hq
  by_cases e : i = q
  · subst e
    rw [rd_set_same (by rw [hl]; exact hq), chF_rd hq, if_pos (by omega)]
  · rw [rd_set_ne e, chF_rd hq, chF_rd hq]
    by_cases h : q < i
    · rw [if_pos h, if_pos (by omega)]
    · rw [if_neg h, if_neg (by omega)]
theorem idx95_0 (w : World) (a b c : Value) : (Instr.index 95 (.agg #[a, b, c]) (.int .i64 0)).run Try.prog w = .ok a w := by
  have hu := Try.underlying95
  unfold Instr.index
  go_simp
theorem idx95_1 (w : World) (a b c : Value) : (Instr.index 95 (.agg #[a, b, c]) (.int .i64 1)).run Try.prog w = .ok b w := by
  have hu := Try.underlying95
  unfold Instr.index
  go_simp
theorem idx95_2 (w : World) (a b c : Value) : (Instr.index 95 (.agg #[a, b, c]) (.int .i64 2)).run Try.prog w = .ok c w := by
  have hu := Try.underlying95
  unfold Instr.index
  go_simp
attribute [local go_sem high] idx95_0 idx95_1 idx95_2
set_option maxHeartbeats 8000000 in
set_option maxRecDepth 100000 in
theorem color_change.good (F : Nat) (fn : Func) (hf : Try.prog.funcs[F]? = some fn) (hname : (fn.name == "runtime.NumGoroutine") = false) (hbody : fn.body.isSome = true) (fq : Int → Int → Int → Int → Int × Int × Int) (hF : PixFn F fq) (hid : ∀ a b c : Int, fq 0 a b c = (a, b, c)) (t : Int) (v0 v1 v2 : Value) (x0 y0 x1 y1 : Int) (D0 D1 D2 : List Int) (gb cN : Nat) (w : World) (ht : t = 0 ∨ t = 1 ∨ t = 2) (hbd : Bds w gb [(v0, ⟨x0, y0, x1, y1, D0⟩), (v1, ⟨x0, y0, x1, y1, D1⟩), (v2, ⟨x0, y0, x1, y1, D2⟩)]) (hcN : 3 ≤ cN) (hl0 : D0.length ≤ 1048576) (hl1 : D1.length = D0.length) (hl2 : D2.length = D0.length) :
    Calls Try.prog 52 #[.int .i64 t, .slice (some ⟨gb, 0, none⟩) 3 cN, .func (.func F) #[] #[]] w fun e w' => ∃ (g c : Nat) (u0 u1 u2 : Value), e = .returned (.slice (some ⟨g, 0, none⟩) 3 c) ∧ 3 ≤ c ∧ Bds w' g [(u0, ⟨x0, y0, x1, y1, chF fq t (fun p => p.1) D0 D1 D2 D0.length⟩), (u1, ⟨x0, y0, x1, y1, chF fq t (fun p => p.2.1) D0 D1 D2 D0.length⟩), (u2, ⟨x0, y0, x1, y1, chF fq t (fun p => p.2.2) D0 D1 D2 D0.length⟩)] ∧ Below w.heap.size w w' := by
  obtain ⟨ps, hps⟩ : ∃ ps, ps = [(v0, (⟨x0, y0, x1, y1, D0⟩ : Pl)), (v1, ⟨x0, y0, x1, y1, D1⟩), (v2, ⟨x0, y0, x1, y1, D2⟩)] := ⟨_, rfl⟩
  rw [← hps] at hbd
  have HBD := Aside0.mk hbd
  have HPS := Aside0.mk hps
  have HN3 := Aside0.mk (And.intro (show ps.length = 3 by rw [hps]; rfl) hcN)
  have HPLEN := Aside0.mk (show ∀ (j : Nat) (p : Value × Pl), ps[j]? = some p → p.2.D.length ≤ 1048576 by
    intro j p hp
    rw [hps] at hp
    rcases j with _ | _ | _ | j <;> simp only [List.getElem?_cons_zero, List.getElem?_cons_succ, List.getElem?_nil] at hp <;> cases hp <;> (first | exact hl0 | (show D1.length ≤ _; omega) | (show D2.length ≤ _; omega)))
  have HT := Aside0.mk ht
  have HL := Aside0.mk (And.intro hl0 (And.intro hl1 hl2))
  clear hbd hps hcN ht hl0 hl1 hl2
  have B0 := Aside0.mk (Back2.nil w)
  go_enter Try.func52, Try.ntmps52
  go_upto_region 3 with (fail)
  go_loopg [7, 16] 3 (fun kq v7 v16 w' => ∃ (j : Nat) (qs : List (Value × Pl)), v16 = .int .i64 (j : Int) ∧ j + kq = 3 ∧ Aside0 (qs.map (·.2) = (ps.map (·.2)).take j) ∧ Aside0 (Back2 w.heap.size w w' v7 qs))
  case atStart => exact ⟨0, [], rfl, rfl, ⟨by simp⟩, B0⟩
  case round =>
  clear B0
  obtain ⟨j, qs, rfl, hj, HQS, HBK⟩ := hrel
  obtain ⟨W1, hW1⟩ : ∃ W1, W1 = wr := ⟨wr, rfl⟩
  subst hW1
  have HB := Aside0.mk (HBK.out.hold.below)
  by_cases hj3 : j < 3
  · obtain ⟨f0, hf0⟩ : ∃ f0, gk = f0 + 1 := ⟨gk - 1, by omega⟩
    subst hf0
    have hb0 : decide ((j : Int) < 3) = true := decide_eq_true (by omega)
    have p0 : (0 ≤ (j : Int)) = True := eq_true (by omega)
    have p1 : ((j : Int) < 3) = True := eq_true (by omega)
    have p2 : (j < 3) = True := eq_true hj3
    have hwj : wrap64 ((j : Int) + 1) = ((j + 1 : Nat) : Int) := by unfold wrap64; omega
    obtain ⟨p, hp⟩ : ∃ p, ps[j]? = some p := ⟨_, List.getElem?_eq_getElem (show j < ps.length by have := HN3.out; omega)⟩
    have hpl := HPLEN.out j p hp
    have hrg := HBD.out.cells j p hp
    obtain ⟨Aq, cq, hv, hcq⟩ := HBD.out.data j p hp
    obtain ⟨pv, q0, q1, q2, q3, Dq⟩ := p
    dsimp only at hv hcq hpl
    subst hv
    have HRG := Aside0.mk (show w.rangeAt gb (j * 5) [.int .i64 q0, .int .i64 q1, .int .i64 q2, .int .i64 q3, .slice Aq Dq.length cq] by rw [Nat.mul_comm]; exact hrg)
    have HCQ := Aside0.mk hcq
    have HPL := Aside0.mk (show Dq.length ≤ 1048576 from hpl)
    have HPJ := Aside0.mk hp
    clear hrg hcq hpl hp
    have K00 := Aside0.mk (Hold.nil W1)
    have HQL := Aside0.mk (show qs.length ≤ 3 by have h1 := congrArg List.length HQS.out; rw [List.length_map, List.length_take] at h1; omega)
    go_upto_region 5 with (first
      | ((with_reducible refine gate_dst (N := 19) rfl ?_); refine load_range_ev (cs := [.int .i64 q0, .int .i64 q1, .int .i64 q2, .int .i64 q3, .slice Aq Dq.length cq]) rfl 26 (.tmp 18) rfl rfl (range_below HRG.out HB.out) Try.underlying26 rfl rfl ?_)
      | ((with_reducible refine gate_dst (N := 9) rfl ?_); refine box_event ?hg (N := 9) ?hd (cs := #[.int .i64 0, .int .i64 0, .int .i64 0, .int .i64 0, .slice none 0 0]) (t := 26) ?hr ?_; (case hd => rfl); (case hg => rfl); (case hr => first | (go_simp; done) | (go_simp; rfl)); intro g9 hg W9 hbox hb; have K := Aside0.mk (K00.out.box (Nat.le_refl _) hg hbox hb trivial); clear hg hbox hb K00)
      | ((with_reducible refine gate_store (t := 26) (p := 9) (v := .tmp 19) rfl ?_); refine store_ev rfl rfl 26 (.tmp 9) (.tmp 19) rfl rfl rfl (K.out.get 0 rfl) rfl rfl (by first | (kernel_rfl) | (simp [Value.oneCell'])) ?_; intro W9s hs; have K' := Aside0.mk (K.out.stored 0 rfl hs); clear K; have K := K'; clear K'; clear hs))
    clear p0 p1 p2 hb0
    have K' := Aside0.mk (K.out.drew)
    clear K
    have K := K'
    clear K'
    refine start_ (n := 11) (S := fun w' => w'.heap[g9]? = some (.cells #[.int .i64 q0, .int .i64 q1, .int .i64 q2, .int .i64 q3, .slice Aq Dq.length cq] 26 (0, 0))) (ds := []) #[false, false, false, false, false, false, false, false, false, false, false] (by kernel_rfl) rfl rfl (K.out.get 0 rfl) (fun hHeld0 => ?_)
    generalize hw2 : W9s.drew = w2 at *
    clear hw2
    have hHeld := Aside0.mk hHeld0
    clear hHeld0
    refine pure_ (i := 0) (N := some 20) (v := ?_) (a' := ?_) #[true, false, false, false, false, false, false, false, false, false, false] rfl rfl (by kernel_rfl) (fun _ _ _ h => h) (Or.inl ⟨by rfl, ?_⟩) ?_ ?_
    rotate_left
    · intro w'
      go_simp
      with_reducible rfl
    rotate_left
    · simp only [Act.put, List.setIfInBounds_toArray, List.set_cons_zero, List.set_cons_succ, i64_w, i32_w]
      rfl
    refine pure_ (i := 1) (N := some 21) (v := ?_) (a' := ?_) #[true, true, false, false, false, false, false, false, false, false, false] rfl rfl (by kernel_rfl) (fun _ _ _ h => h) (Or.inl ⟨by rfl, ?_⟩) ?_ ?_
    rotate_left
    · intro w'
      go_simp
      with_reducible rfl
    rotate_left
    · simp only [Act.put, List.setIfInBounds_toArray, List.set_cons_zero, List.set_cons_succ, i64_w, i32_w]
      rfl
    refine take_ (i := 2) (N := some 22) (v := .agg #[.int .i64 q0, .int .i64 q1, .int .i64 q2, .int .i64 q3]) (a' := ?_) #[true, true, true, false, false, false, false, false, false, false, false] rfl rfl (by kernel_rfl) (fun _ _ _ h => h) (load_mid_yields (i := 0) (cs := #[.int .i64 q0, .int .i64 q1, .int .i64 q2, .int .i64 q3]) (by rfl) 23 (.tmp 21) rfl rfl (fun _ h => h) (fun j v hj => by rcases j with _ | _ | _ | _ | j <;> first | exact hj | (simp at hj)) Try.underlying23 rfl rfl) hHeld.out ?_ ?_
    rotate_left
    · simp only [Act.put, List.setIfInBounds_toArray, List.set_cons_zero, List.set_cons_succ, i64_w, i32_w]
      rfl
    refine pure_ (i := 4) (N := some 24) (v := ?_) (a' := ?_) #[true, true, true, false, true, false, false, false, false, false, false] rfl rfl (by kernel_rfl) (fun _ _ _ h => h) (Or.inl ⟨by rfl, ?_⟩) ?_ ?_
    rotate_left
    · intro w'
      go_simp
      with_reducible rfl
    rotate_left
    · simp only [Act.put, List.setIfInBounds_toArray, List.set_cons_zero, List.set_cons_succ, i64_w, i32_w]
      rfl
    refine take_ (i := 5) (N := some 25) (v := ?_) (a' := ?_) #[true, true, true, false, true, true, false, false, false, false, false] rfl rfl (by kernel_rfl) (fun _ _ _ h => h) (Or.inl ⟨by rfl, ?_⟩) hHeld.out ?_ ?_
    rotate_left
    · rintro w' s0
      have s4 : w'.cell? ⟨g9, 4, none⟩ = some (.slice Aq Dq.length cq) := (blk_cell s0 4).trans rfl
      go_simp
      with_reducible rfl
    rotate_left
    · simp only [Act.put, List.setIfInBounds_toArray, List.set_cons_zero, List.set_cons_succ, i64_w, i32_w]
      rfl
    refine one_ (i := 3) (N := some 23) #[true, true, true, true, true, true, false, false, false, false, false] rfl rfl (by kernel_rfl) (by decide) (fun KC hK => ?_)
    refine event_step (v := .slice (some ⟨w2.heap.size, 0, none⟩) 0 0) (w1 := w2.alloc (.cells #[] 3)) (by rfl) (by first | (go_simp; done) | (go_simp; rfl)) ?_
    have HE := Aside0.mk (built_none w2)
    have Kw := Aside0.mk K.out
    have HB3 := Aside0.mk (below_alloc (Below.refl w2.heap.size w2) (.cells #[] 3))
    have K' := Aside0.mk (K.out.call (below_size K.out.below) HB3.out)
    clear K
    have K := K'
    clear K'
    clear hHeld
    refine hK.out _ _ (K.out.get 0 rfl) (fun hHeld0 => ?_)
    have hHeld := Aside0.mk hHeld0
    clear hHeld0
    clear hK KC
    refine norm_ (a' := ?_) ?_ ?_
    rotate_left
    · show Act.put _ (some 23) _ = _
      simp only [Act.put, List.setIfInBounds_toArray, List.set_cons_zero, List.set_cons_succ, i64_w, i32_w]
      rfl
    refine one_ (i := 6) (N := some 26) #[true, true, true, true, true, true, true, false, false, false, false] rfl rfl (by kernel_rfl) (by decide) (fun KC hK => ?_)
    refine Kd.R_append_rows_step (Kd.int .i64) (w0 := w2) w2.heap.size (by rfl) (.tmp 23) (.tmp 25) 24 3 (.int .i64 0) 8 rfl Try.underlying24 info3 rfl (by decide) (by omega) (.slice (some ⟨w2.heap.size, 0, none⟩) 0 0) [] Dq Aq Dq.length cq (fun _ => True) (fun _ => False) rfl rfl HE.out (Kd.C_below HCQ.out.2 (HB.out.trans (K.out.below.mono (below_size HB.out)))) (fun _ _ h => h) (fun _ h => h.elim) (fun _ _ => trivial) HB3.out (below_size HB3.out) (by have := HPL.out; simp; omega) ?_
    intro v9 w5 ho hb hg hat
    rw [List.nil_append] at ho
    obtain ⟨A9, d9, rfl⟩ := Kd.R_slice ho
    have K' := Aside0.mk (Kw.out.add (below_size Kw.out.below) ho hb)
    clear K
    have K := K'
    clear K' ho hb hg hat hHeld HE HB3 Kw
    refine hK.out _ _ (K.out.get 0 rfl) (fun hHeld0 => ?_)
    have hHeld := Aside0.mk hHeld0
    clear hHeld0
    clear hK KC
    refine norm_ (a' := ?_) ?_ ?_
    rotate_left
    · show Act.put _ (some 26) _ = _
      simp only [Act.put, List.setIfInBounds_toArray, List.set_cons_zero, List.set_cons_succ, i64_w, i32_w]
      rfl
    refine pure_ (i := 7) (N := some 27) (v := ?_) (a' := ?_) #[true, true, true, true, true, true, true, true, false, false, false] rfl rfl (by kernel_rfl) (fun _ _ _ h => h) (Or.inl ⟨by rfl, ?_⟩) ?_ ?_
    rotate_left
    · intro w'
      go_simp
      with_reducible rfl
    rotate_left
    · simp only [Act.put, List.setIfInBounds_toArray, List.set_cons_zero, List.set_cons_succ, i64_w, i32_w]
      rfl
    refine one_ (i := 8) (N := some 28) #[true, true, true, true, true, true, true, true, true, false, false] rfl rfl (by kernel_rfl) (by decide) (fun KC hK => ?_)
    refine event_step (v := .slice (some ⟨w5.heap.size, 0, none⟩) 1 1) (w1 := w5.alloc (.cells #[.int .i64 q0, .int .i64 q1, .int .i64 q2, .int .i64 q3, .slice A9 Dq.length d9] 26)) (by rfl) (by first | (go_simp; done) | (go_simp; rfl)) ?_
    clear hHeld
    refine hK.out _ _ ((K.out.call (below_size K.out.below) (below_alloc (Below.refl _ _) _)).get 0 rfl) (fun hHeld0 => ?_)
    have hHeld := Aside0.mk hHeld0
    clear hHeld0
    clear hK KC
    refine norm_ (a' := ?_) ?_ ?_
    rotate_left
    · show Act.put _ (some 28) _ = _
      simp only [Act.put, List.setIfInBounds_toArray, List.set_cons_zero, List.set_cons_succ, i64_w, i32_w]
      rfl
    refine one_ (i := 9) (N := some 29) #[true, true, true, true, true, true, true, true, true, true, false] rfl rfl (by kernel_rfl) (by decide) (fun KC hK => ?_)
    have HB5 := Aside0.mk (HBK.out.call (HBK.out.hold.size rfl) K.out.below)
    refine Kd.R_append_step rawP (w0 := w) w.heap.size (by rfl) (.tmp 20) (.tmp 28) 32 26 _ 56 rfl Try.underlying32 info26 rfl (by decide) (by decide) u7 (qs.map pcells) (pcells (.slice A9 Dq.length d9, (⟨q0, q1, q2, q3, Dq⟩ : Pl))) (pcells (.slice A9 Dq.length d9, (⟨q0, q1, q2, q3, Dq⟩ : Pl))) (fun _ => True) (fun _ => False) rfl rfl pcells_raw (fun _ h => h.elim) (fun _ _ => trivial) HB5.out.row HB5.out.hold.below (HB5.out.hold.size rfl) (by rw [List.length_map]; have := HQL.out; omega) ?_
    intro v7 w6 hR hb hg hat
    have HB6 := Aside0.mk (HBK.out.add (q := (.slice A9 Dq.length d9, (⟨q0, q1, q2, q3, Dq⟩ : Pl))) (HBK.out.hold.size rfl) K.out.noBlk hR hb hg)
    have hS6 := blk_grown (K.out.get 0 rfl) hg (fun e => by have := Kd.R_lt HBK.out.row _ e.symm; have := K.out.bks.ge 0 _ rfl; omega)
    clear hR hb hg hat hHeld HB5
    refine hK.out _ _ hS6 (fun hHeld0 => ?_)
    have hHeld := Aside0.mk hHeld0
    clear hHeld0
    clear hS6
    clear hK KC
    refine norm_ (a' := ?_) ?_ ?_
    rotate_left
    · show Act.put _ (some 29) _ = _
      simp only [Act.put, List.setIfInBounds_toArray, List.set_cons_zero, List.set_cons_succ, i64_w, i32_w]
      rfl
    refine pure_ (i := 10) (N := some 7) (v := ?_) (a' := ?_) #[true, true, true, true, true, true, true, true, true, true, true] rfl rfl (by kernel_rfl) (fun _ _ _ h => h) (Or.inl ⟨by rfl, ?_⟩) ?_ ?_
    rotate_left
    · intro w'
      go_simp
      with_reducible rfl
    rotate_left
    · simp only [Act.put, List.setIfInBounds_toArray, List.set_cons_zero, List.set_cons_succ, i64_w, i32_w]
      rfl
    refine done_ (by kernel_rfl) ?_
    clear hHeld HBK K
    go_wp2
    go_roundg f0
    case measure => omega
    case rel => exact ⟨j + 1, qs ++ [(.slice A9 Dq.length d9, (⟨q0, q1, q2, q3, Dq⟩ : Pl))], by first | rfl | rw [hwj], by omega, ⟨by rw [List.map_append, HQS.out, List.take_add_one, List.getElem?_map, HPJ.out]; rfl⟩, HB6⟩
  · have hb0 : decide ((j : Int) < 3) = false := decide_eq_false (by omega)
    have hb0' : decide (j < 3) = false := decide_eq_false hj3
    have hqp : qs.map (·.2) = ps.map (·.2) := by rw [HQS.out, List.take_of_length_le (by rw [List.length_map]; have := HN3.out; omega)]
    rw [HPS.out] at hqp
    have hq3 : qs.length = 3 := by have := congrArg List.length hqp; simpa using this
    clear hj hj3 HB HPLEN HPS HN3 HBD HQS
    obtain ⟨g7, c7, cs7, e7, hc7, hK, hcs⟩ := HBK.out.open_ (by omega)
    obtain ⟨⟨u0, p0⟩, ⟨u1, p1⟩, ⟨u2, p2⟩, rfl⟩ : ∃ a b c : Value × Pl, qs = [a, b, c] := by
      match qs, hq3 with
      | [a, b, c], _ => exact ⟨a, b, c, rfl⟩
    simp only [List.map_cons, List.map_nil, List.cons.injEq, and_true] at hqp
    obtain ⟨rfl, rfl, rfl⟩ := hqp
    subst e7
    clear HBK hq3
    have K := Aside0.mk (show Hold w.heap.size w W1 [(g7, 26, cs7)] [(u2, D2), (u1, D1), (u0, D0)] from hK)
    have HCS := Aside0.mk hcs
    have HC7 := Aside0.mk (show 3 ≤ c7 from hc7)
    clear hK hcs hc7
    have ht := HT.out
    by_cases h0 : t = 0
    · subst h0
      go_wp2
      go_ret
      refine ⟨g7, c7, rfl, HC7.out, ⟨u0, u1, u2, ?_⟩, K.out.below⟩
      have e0 : chF fq 0 (fun p => p.1) D0 D1 D2 D0.length = D0 := by
        refine ext_rd (by simp [chF]) fun q hq => ?_
        rw [chF_rd (by simpa [chF] using hq), if_pos (by simpa [chF] using hq), hid]
      have e1 : chF fq 0 (fun p => p.2.1) D0 D1 D2 D0.length = D1 := by
        refine ext_rd (by simp [chF]; exact HL.out.2.1.symm) fun q hq => ?_
        rw [chF_rd (by simpa [chF] using hq), if_pos (by simpa [chF] using hq), hid]
      have e2 : chF fq 0 (fun p => p.2.2) D0 D1 D2 D0.length = D2 := by
        refine ext_rd (by simp [chF]; exact HL.out.2.2.symm) fun q hq => ?_
        rw [chF_rd (by simpa [chF] using hq), if_pos (by simpa [chF] using hq), hid]
      rw [e0, e1, e2]
      refine bds_of_hold K.out HCS.out fun p hp => ?_
      simp only [List.mem_cons, List.not_mem_nil, or_false] at hp
      rcases hp with rfl | rfl | rfl
      · exact ⟨2, rfl⟩
      · exact ⟨1, rfl⟩
      · exact ⟨0, rfl⟩
    have ht0 : decide (t = 0) = false := decide_eq_false h0
    have ht1 : (t == 0) = false := beq_eq_false_iff_ne.mpr h0
    clear h0
    obtain ⟨A0, a0, e0⟩ := Kd.R_slice (K.out.rowAt 2 rfl)
    obtain ⟨A1, a1, e1⟩ := Kd.R_slice (K.out.rowAt 1 rfl)
    obtain ⟨A2, a2, e2⟩ := Kd.R_slice (K.out.rowAt 0 rfl)
    try dsimp only at e0
    try dsimp only at e1
    try dsimp only at e2
    rw [HL.out.2.1] at e1
    rw [HL.out.2.2] at e2
    subst e0 e1 e2
    have HC4 := Aside0.mk (show cs7[4]? = some (.slice A0 D0.length a0) ∧ cs7[9]? = some (.slice A1 D0.length a1) ∧ cs7[14]? = some (.slice A2 D0.length a2) from ⟨HCS.out 0 _ rfl 4 _ rfl, HCS.out 1 _ rfl 4 _ rfl, HCS.out 2 _ rfl 4 _ rfl⟩)
    have p7 : W1.cell? ⟨g7, 4, none⟩ = some (.slice A0 D0.length a0) := K.out.cell 0 rfl 4 HC4.out.1
    go_upto_region 10 with (fail)
    clear ht0 ht1 ht p7
    have h0e : chF fq t (fun p => p.1) D0 D1 D2 0 = D0 := by
      refine ext_rd (by simp [chF]) fun q hq => ?_
      rw [chF_rd (by simpa [chF] using hq), if_neg (Nat.not_lt_zero _)]
    have h1e : chF fq t (fun p => p.2.1) D0 D1 D2 0 = D1 := by
      refine ext_rd (by simp [chF]; exact HL.out.2.1.symm) fun q hq => ?_
      rw [chF_rd (by simpa [chF] using hq), if_neg (Nat.not_lt_zero _)]
    have h2e : chF fq t (fun p => p.2.2) D0 D1 D2 0 = D2 := by
      refine ext_rd (by simp [chF]; exact HL.out.2.2.symm) fun q hq => ?_
      rw [chF_rd (by simpa [chF] using hq), if_neg (Nat.not_lt_zero _)]
    go_loopg [39] D0.length (fun kq v39 w' => ∃ i : Nat, v39 = .int .i64 (i : Int) ∧ i + kq = D0.length ∧ Aside0 (Hold w.heap.size w w' [(g7, 26, cs7)] ([(.slice A2 D0.length a2, chF fq t (fun p => p.2.2) D0 D1 D2 i), (.slice A1 D0.length a1, chF fq t (fun p => p.2.1) D0 D1 D2 i), (.slice A0 D0.length a0, chF fq t (fun p => p.1) D0 D1 D2 i)])))
    case atStart => exact ⟨0, rfl, by omega, by rw [h0e, h1e, h2e]; exact K⟩
    case round =>
    clear K h0e h1e h2e
    obtain ⟨i, rfl, hi, K⟩ := hrel
    by_cases hil : i < D0.length
    · obtain ⟨f1, hf1⟩ : ∃ f1, gk = f1 + 1 := ⟨gk - 1, by omega⟩
      subst hf1
      have hb0 : decide ((i : Int) < (D0.length : Int)) = true := decide_eq_true (by omega)
      have hb0' : decide (i < D0.length) = true := decide_eq_true hil
      have hwi : wrap64 ((i : Int) + 1) = ((i + 1 : Nat) : Int) := by have := HL.out.1; unfold wrap64; omega
      have HIX := Aside0.mk (And.intro hi hil)
      have hlen : ∀ (sel : Int × Int × Int → Int) (i : Nat), (chF fq t sel D0 D1 D2 i).length = D0.length := fun sel i => by simp [chF]
      obtain ⟨b0, cap0, e0, _, _, _⟩ := Kd.R_form (K.out.rowAt 2 rfl) (by rw [hlen]; omega)
      obtain ⟨b1, cap1, e1, _, _, _⟩ := Kd.R_form (K.out.rowAt 1 rfl) (by rw [hlen]; omega)
      obtain ⟨b2, cap2, e2, _, _, _⟩ := Kd.R_form (K.out.rowAt 0 rfl) (by rw [hlen]; omega)
      injection e0 with e01 e02 e03
      injection e1 with e11 e12 e13
      injection e2 with e21 e22 e23
      subst e01 e11 e21
      clear e02 e03 e12 e13 e22 e23 hi hil
      go_upto_region 12 with (fail)
      have K' := Aside0.mk (K.out.drew)
      clear K
      have K := K'
      clear K'
      have P0 : (0 ≤ (i : Int)) = True := eq_true (by omega)
      have P1 : ((i : Int) < (D0.length : Int)) = True := eq_true (by have := HIX.out; omega)
      have P2 : (i < D0.length) = True := eq_true HIX.out.2
      have HCELL0 := Aside0.mk (show ∀ {W : World} {l : List (Nat × Nat × Array Value)}, Hold w.heap.size w W l ([(.slice (some ⟨b2, 0, none⟩) D0.length a2, chF fq t (fun p => p.2.2) D0 D1 D2 i), (.slice (some ⟨b1, 0, none⟩) D0.length a1, chF fq t (fun p => p.2.1) D0 D1 D2 i), (.slice (some ⟨b0, 0, none⟩) D0.length a0, chF fq t (fun p => p.1) D0 D1 D2 i)]) → W.cell? ⟨b0, i, none⟩ = some (.int .i64 (rd D0 (i : Int))) from fun h => by
        have h1 := (Kd.R_celln (0 : Int) (h.rowAt 2 rfl) (i : Int) (by omega) (by have := HIX.out; omega)).1
        rw [Int.toNat_natCast] at h1
        refine h1.trans ?_
        show some (Value.int .i64 (rd (chF fq t (fun p => p.1) D0 D1 D2 i) (i : Int))) = _
        rw [chF_rd HIX.out.2, if_neg (by omega)])
      have HCELL1 := Aside0.mk (show ∀ {W : World} {l : List (Nat × Nat × Array Value)}, Hold w.heap.size w W l ([(.slice (some ⟨b2, 0, none⟩) D0.length a2, chF fq t (fun p => p.2.2) D0 D1 D2 i), (.slice (some ⟨b1, 0, none⟩) D0.length a1, chF fq t (fun p => p.2.1) D0 D1 D2 i), (.slice (some ⟨b0, 0, none⟩) D0.length a0, chF fq t (fun p => p.1) D0 D1 D2 i)]) → W.cell? ⟨b1, i, none⟩ = some (.int .i64 (rd D1 (i : Int))) from fun h => by
        have h1 := (Kd.R_celln (0 : Int) (h.rowAt 1 rfl) (i : Int) (by omega) (by have := HIX.out; omega)).1
        rw [Int.toNat_natCast] at h1
        refine h1.trans ?_
        show some (Value.int .i64 (rd (chF fq t (fun p => p.2.1) D0 D1 D2 i) (i : Int))) = _
        rw [chF_rd HIX.out.2, if_neg (by omega)])
      have HCELL2 := Aside0.mk (show ∀ {W : World} {l : List (Nat × Nat × Array Value)}, Hold w.heap.size w W l ([(.slice (some ⟨b2, 0, none⟩) D0.length a2, chF fq t (fun p => p.2.2) D0 D1 D2 i), (.slice (some ⟨b1, 0, none⟩) D0.length a1, chF fq t (fun p => p.2.1) D0 D1 D2 i), (.slice (some ⟨b0, 0, none⟩) D0.length a0, chF fq t (fun p => p.1) D0 D1 D2 i)]) → W.cell? ⟨b2, i, none⟩ = some (.int .i64 (rd D2 (i : Int))) from fun h => by
        have h1 := (Kd.R_celln (0 : Int) (h.rowAt 0 rfl) (i : Int) (by omega) (by have := HIX.out; omega)).1
        rw [Int.toNat_natCast] at h1
        refine h1.trans ?_
        show some (Value.int .i64 (rd (chF fq t (fun p => p.2.2) D0 D1 D2 i) (i : Int))) = _
        rw [chF_rd HIX.out.2, if_neg (by omega)])
      obtain ⟨r0, hr0⟩ : ∃ r, (fq t (rd D0 (i : Int)) (rd D1 (i : Int)) (rd D2 (i : Int))).1 = r := ⟨_, rfl⟩
      obtain ⟨r1, hr1⟩ : ∃ r, (fq t (rd D0 (i : Int)) (rd D1 (i : Int)) (rd D2 (i : Int))).2.1 = r := ⟨_, rfl⟩
      obtain ⟨r2, hr2⟩ : ∃ r, (fq t (rd D0 (i : Int)) (rd D1 (i : Int)) (rd D2 (i : Int))).2.2 = r := ⟨_, rfl⟩
      go_cut [11] (fun v11 wc => ∃ g11 : Nat, v11 = .pointer (some ⟨g11, 0, none⟩) ∧ Aside0 (Hold w.heap.size w wc [(g11, 95, #[.int .i64 r0, .int .i64 r1, .int .i64 r2]), (g7, 26, cs7)] ([(.slice (some ⟨b2, 0, none⟩) D0.length a2, chF fq t (fun p => p.2.2) D0 D1 D2 i), (.slice (some ⟨b1, 0, none⟩) D0.length a1, chF fq t (fun p => p.2.1) D0 D1 D2 i), (.slice (some ⟨b0, 0, none⟩) D0.length a0, chF fq t (fun p => p.1) D0 D1 D2 i)])))
      case first =>
        clear hb0 hb0'
        refine start_ (n := 27) (S := fun w' => w'.cell? ⟨g7, 4, none⟩ = some (.slice (some ⟨b0, 0, none⟩) D0.length a0) ∧ w'.cell? ⟨g7, 9, none⟩ = some (.slice (some ⟨b1, 0, none⟩) D0.length a1) ∧ w'.cell? ⟨g7, 14, none⟩ = some (.slice (some ⟨b2, 0, none⟩) D0.length a2) ∧ w'.cell? ⟨b0, i, none⟩ = some (.int .i64 (rd D0 (i : Int))) ∧ w'.cell? ⟨b1, i, none⟩ = some (.int .i64 (rd D1 (i : Int))) ∧ w'.cell? ⟨b2, i, none⟩ = some (.int .i64 (rd D2 (i : Int)))) (ds := [26]) #[false, false, false, false, false, false, false, false, false, false, false, false, false, false, false, false, false, false, false, false, false, false, false, false, false, false, false] (by kernel_rfl) rfl rfl ⟨K.out.cell 0 rfl 4 HC4.out.1, K.out.cell 0 rfl 9 HC4.out.2.1, K.out.cell 0 rfl 14 HC4.out.2.2, HCELL0.out K.out, HCELL1.out K.out, HCELL2.out K.out⟩ (fun hHeld0 => ?_)
        generalize hw2 : wr.drew = w2 at *
        clear hw2
        have hHeld := Aside0.mk hHeld0
        clear hHeld0
        refine pure_ (i := 0) (N := some 42) (v := ?_) (a' := ?_) #[true, false, false, false, false, false, false, false, false, false, false, false, false, false, false, false, false, false, false, false, false, false, false, false, false, false, false] rfl rfl (by kernel_rfl) (fun _ _ _ h => h) (Or.inl ⟨by rfl, ?_⟩) ?_ ?_
        rotate_left
        · intro w'
          go_simp
          with_reducible rfl
        rotate_left
        · simp only [Act.put, List.setIfInBounds_toArray, List.set_cons_zero, List.set_cons_succ, i64_w, i32_w]
          rfl
        refine pure_ (i := 1) (N := some 43) (v := ?_) (a' := ?_) #[true, true, false, false, false, false, false, false, false, false, false, false, false, false, false, false, false, false, false, false, false, false, false, false, false, false, false] rfl rfl (by kernel_rfl) (fun _ _ _ h => h) (Or.inl ⟨by rfl, ?_⟩) ?_ ?_
        rotate_left
        · intro w'
          go_simp
          with_reducible rfl
        rotate_left
        · simp only [Act.put, List.setIfInBounds_toArray, List.set_cons_zero, List.set_cons_succ, i64_w, i32_w]
          rfl
        refine pure_ (i := 2) (N := some 44) (v := ?_) (a' := ?_) #[true, true, true, false, false, false, false, false, false, false, false, false, false, false, false, false, false, false, false, false, false, false, false, false, false, false, false] rfl rfl (by kernel_rfl) (fun _ _ _ h => h) (Or.inl ⟨by rfl, ?_⟩) ?_ ?_
        rotate_left
        · intro w'
          go_simp
          with_reducible rfl
        rotate_left
        · simp only [Act.put, List.setIfInBounds_toArray, List.set_cons_zero, List.set_cons_succ, i64_w, i32_w]
          rfl
        refine pure_ (i := 3) (N := some 45) (v := ?_) (a' := ?_) #[true, true, true, true, false, false, false, false, false, false, false, false, false, false, false, false, false, false, false, false, false, false, false, false, false, false, false] rfl rfl (by kernel_rfl) (fun _ _ _ h => h) (Or.inl ⟨by rfl, ?_⟩) ?_ ?_
        rotate_left
        · intro w'
          go_simp
          with_reducible rfl
        rotate_left
        · simp only [Act.put, List.setIfInBounds_toArray, List.set_cons_zero, List.set_cons_succ, i64_w, i32_w]
          rfl
        refine pure_ (i := 4) (N := some 46) (v := ?_) (a' := ?_) #[true, true, true, true, true, false, false, false, false, false, false, false, false, false, false, false, false, false, false, false, false, false, false, false, false, false, false] rfl rfl (by kernel_rfl) (fun _ _ _ h => h) (Or.inl ⟨by rfl, ?_⟩) ?_ ?_
        rotate_left
        · intro w'
          go_simp
          with_reducible rfl
        rotate_left
        · simp only [Act.put, List.setIfInBounds_toArray, List.set_cons_zero, List.set_cons_succ, i64_w, i32_w]
          rfl
        refine take_ (i := 5) (N := some 47) (v := ?_) (a' := ?_) #[true, true, true, true, true, true, false, false, false, false, false, false, false, false, false, false, false, false, false, false, false, false, false, false, false, false, false] rfl rfl (by kernel_rfl) (fun _ _ _ h => h) (Or.inl ⟨by rfl, ?_⟩) hHeld.out ?_ ?_
        rotate_left
        · rintro w' ⟨s0, s1, s2, s3, s4, s5⟩
          go_simp
          with_reducible rfl
        rotate_left
        · simp only [Act.put, List.setIfInBounds_toArray, List.set_cons_zero, List.set_cons_succ, i64_w, i32_w]
          rfl
        refine pure_ (i := 6) (N := some 48) (v := ?_) (a' := ?_) #[true, true, true, true, true, true, true, false, false, false, false, false, false, false, false, false, false, false, false, false, false, false, false, false, false, false, false] rfl rfl (by kernel_rfl) (fun _ _ _ h => h) (Or.inl ⟨by rfl, ?_⟩) ?_ ?_
        rotate_left
        · intro w'
          go_simp
          with_reducible rfl
        rotate_left
        · simp only [Act.put, List.setIfInBounds_toArray, List.set_cons_zero, List.set_cons_succ, i64_w, i32_w]
          rfl
        refine pure_ (i := 7) (N := some 49) (v := ?_) (a' := ?_) #[true, true, true, true, true, true, true, true, false, false, false, false, false, false, false, false, false, false, false, false, false, false, false, false, false, false, false] rfl rfl (by kernel_rfl) (fun _ _ _ h => h) (Or.inl ⟨by rfl, ?_⟩) ?_ ?_
        rotate_left
        · intro w'
          go_simp
          with_reducible rfl
        rotate_left
        · simp only [Act.put, List.setIfInBounds_toArray, List.set_cons_zero, List.set_cons_succ, i64_w, i32_w]
          rfl
        refine take_ (i := 8) (N := some 50) (v := ?_) (a' := ?_) #[true, true, true, true, true, true, true, true, true, false, false, false, false, false, false, false, false, false, false, false, false, false, false, false, false, false, false] rfl rfl (by kernel_rfl) (fun _ _ _ h => h) (Or.inl ⟨by rfl, ?_⟩) hHeld.out ?_ ?_
        rotate_left
        · rintro w' ⟨s0, s1, s2, s3, s4, s5⟩
          go_simp
          with_reducible rfl
        rotate_left
        · simp only [Act.put, List.setIfInBounds_toArray, List.set_cons_zero, List.set_cons_succ, i64_w, i32_w]
          rfl
        refine pure_ (i := 9) (N := some 51) (v := ?_) (a' := ?_) #[true, true, true, true, true, true, true, true, true, true, false, false, false, false, false, false, false, false, false, false, false, false, false, false, false, false, false] rfl rfl (by kernel_rfl) (fun _ _ _ h => h) (Or.inl ⟨by rfl, ?_⟩) ?_ ?_
        rotate_left
        · intro w'
          go_simp
          with_reducible rfl
        rotate_left
        · simp only [Act.put, List.setIfInBounds_toArray, List.set_cons_zero, List.set_cons_succ, i64_w, i32_w]
          rfl
        refine pure_ (i := 10) (N := some 52) (v := ?_) (a' := ?_) #[true, true, true, true, true, true, true, true, true, true, true, false, false, false, false, false, false, false, false, false, false, false, false, false, false, false, false] rfl rfl (by kernel_rfl) (fun _ _ _ h => h) (Or.inl ⟨by rfl, ?_⟩) ?_ ?_
        rotate_left
        · intro w'
          go_simp
          with_reducible rfl
        rotate_left
        · simp only [Act.put, List.setIfInBounds_toArray, List.set_cons_zero, List.set_cons_succ, i64_w, i32_w]
          rfl
        refine pure_ (i := 11) (N := some 53) (v := ?_) (a' := ?_) #[true, true, true, true, true, true, true, true, true, true, true, true, false, false, false, false, false, false, false, false, false, false, false, false, false, false, false] rfl rfl (by kernel_rfl) (fun _ _ _ h => h) (Or.inl ⟨by rfl, ?_⟩) ?_ ?_
        rotate_left
        · intro w'
          go_simp
          with_reducible rfl
        rotate_left
        · simp only [Act.put, List.setIfInBounds_toArray, List.set_cons_zero, List.set_cons_succ, i64_w, i32_w]
          rfl
        refine take_ (i := 12) (N := some 54) (v := ?_) (a' := ?_) #[true, true, true, true, true, true, true, true, true, true, true, true, true, false, false, false, false, false, false, false, false, false, false, false, false, false, false] rfl rfl (by kernel_rfl) (fun _ _ _ h => h) (Or.inl ⟨by rfl, ?_⟩) hHeld.out ?_ ?_
        rotate_left
        · rintro w' ⟨s0, s1, s2, s3, s4, s5⟩
          go_simp
          with_reducible rfl
        rotate_left
        · simp only [Act.put, List.setIfInBounds_toArray, List.set_cons_zero, List.set_cons_succ, i64_w, i32_w]
          rfl
        refine pure_ (i := 13) (N := some 55) (v := ?_) (a' := ?_) #[true, true, true, true, true, true, true, true, true, true, true, true, true, true, false, false, false, false, false, false, false, false, false, false, false, false, false] rfl rfl (by kernel_rfl) (fun _ _ _ h => h) (Or.inl ⟨by rfl, ?_⟩) ?_ ?_
        rotate_left
        · intro w'
          go_simp
          with_reducible rfl
        rotate_left
        · simp only [Act.put, List.setIfInBounds_toArray, List.set_cons_zero, List.set_cons_succ, i64_w, i32_w]
          rfl
        refine pure_ (i := 14) (N := some 56) (v := ?_) (a' := ?_) #[true, true, true, true, true, true, true, true, true, true, true, true, true, true, true, false, false, false, false, false, false, false, false, false, false, false, false] rfl rfl (by kernel_rfl) (fun _ _ _ h => h) (Or.inl ⟨by rfl, ?_⟩) ?_ ?_
        rotate_left
        · intro w'
          go_simp
          with_reducible rfl
        rotate_left
        · simp only [Act.put, List.setIfInBounds_toArray, List.set_cons_zero, List.set_cons_succ, i64_w, i32_w]
          rfl
        refine take_ (i := 15) (N := some 57) (v := ?_) (a' := ?_) #[true, true, true, true, true, true, true, true, true, true, true, true, true, true, true, true, false, false, false, false, false, false, false, false, false, false, false] rfl rfl (by kernel_rfl) (fun _ _ _ h => h) (Or.inl ⟨by rfl, ?_⟩) hHeld.out ?_ ?_
        rotate_left
        · rintro w' ⟨s0, s1, s2, s3, s4, s5⟩
          go_simp
          with_reducible rfl
        rotate_left
        · simp only [Act.put, List.setIfInBounds_toArray, List.set_cons_zero, List.set_cons_succ, i64_w, i32_w]
          rfl
        refine pure_ (i := 16) (N := some 58) (v := ?_) (a' := ?_) #[true, true, true, true, true, true, true, true, true, true, true, true, true, true, true, true, true, false, false, false, false, false, false, false, false, false, false] rfl rfl (by kernel_rfl) (fun _ _ _ h => h) (Or.inl ⟨by rfl, ?_⟩) ?_ ?_
        rotate_left
        · intro w'
          go_simp
          with_reducible rfl
        rotate_left
        · simp only [Act.put, List.setIfInBounds_toArray, List.set_cons_zero, List.set_cons_succ, i64_w, i32_w]
          rfl
        refine pure_ (i := 17) (N := some 59) (v := ?_) (a' := ?_) #[true, true, true, true, true, true, true, true, true, true, true, true, true, true, true, true, true, true, false, false, false, false, false, false, false, false, false] rfl rfl (by kernel_rfl) (fun _ _ _ h => h) (Or.inl ⟨by rfl, ?_⟩) ?_ ?_
        rotate_left
        · intro w'
          go_simp
          with_reducible rfl
        rotate_left
        · simp only [Act.put, List.setIfInBounds_toArray, List.set_cons_zero, List.set_cons_succ, i64_w, i32_w]
          rfl
        refine pure_ (i := 18) (N := some 60) (v := ?_) (a' := ?_) #[true, true, true, true, true, true, true, true, true, true, true, true, true, true, true, true, true, true, true, false, false, false, false, false, false, false, false] rfl rfl (by kernel_rfl) (fun _ _ _ h => h) (Or.inl ⟨by rfl, ?_⟩) ?_ ?_
        rotate_left
        · intro w'
          go_simp
          with_reducible rfl
        rotate_left
        · simp only [Act.put, List.setIfInBounds_toArray, List.set_cons_zero, List.set_cons_succ, i64_w, i32_w]
          rfl
        refine take_ (i := 19) (N := some 61) (v := ?_) (a' := ?_) #[true, true, true, true, true, true, true, true, true, true, true, true, true, true, true, true, true, true, true, true, false, false, false, false, false, false, false] rfl rfl (by kernel_rfl) (fun _ _ _ h => h) (Or.inl ⟨by rfl, ?_⟩) hHeld.out ?_ ?_
        rotate_left
        · rintro w' ⟨s0, s1, s2, s3, s4, s5⟩
          go_simp
          with_reducible rfl
        rotate_left
        · simp only [Act.put, List.setIfInBounds_toArray, List.set_cons_zero, List.set_cons_succ, i64_w, i32_w]
          rfl
        refine pure_ (i := 20) (N := some 62) (v := ?_) (a' := ?_) #[true, true, true, true, true, true, true, true, true, true, true, true, true, true, true, true, true, true, true, true, true, false, false, false, false, false, false] rfl rfl (by kernel_rfl) (fun _ _ _ h => h) (Or.inl ⟨by rfl, ?_⟩) ?_ ?_
        rotate_left
        · intro w'
          go_simp
          with_reducible rfl
        rotate_left
        · simp only [Act.put, List.setIfInBounds_toArray, List.set_cons_zero, List.set_cons_succ, i64_w, i32_w]
          rfl
        refine pure_ (i := 21) (N := some 63) (v := ?_) (a' := ?_) #[true, true, true, true, true, true, true, true, true, true, true, true, true, true, true, true, true, true, true, true, true, true, false, false, false, false, false] rfl rfl (by kernel_rfl) (fun _ _ _ h => h) (Or.inl ⟨by rfl, ?_⟩) ?_ ?_
        rotate_left
        · intro w'
          go_simp
          with_reducible rfl
        rotate_left
        · simp only [Act.put, List.setIfInBounds_toArray, List.set_cons_zero, List.set_cons_succ, i64_w, i32_w]
          rfl
        refine take_ (i := 22) (N := some 64) (v := ?_) (a' := ?_) #[true, true, true, true, true, true, true, true, true, true, true, true, true, true, true, true, true, true, true, true, true, true, true, false, false, false, false] rfl rfl (by kernel_rfl) (fun _ _ _ h => h) (Or.inl ⟨by rfl, ?_⟩) hHeld.out ?_ ?_
        rotate_left
        · rintro w' ⟨s0, s1, s2, s3, s4, s5⟩
          go_simp
          with_reducible rfl
        rotate_left
        · simp only [Act.put, List.setIfInBounds_toArray, List.set_cons_zero, List.set_cons_succ, i64_w, i32_w]
          rfl
        refine pure_ (i := 23) (N := some 65) (v := ?_) (a' := ?_) #[true, true, true, true, true, true, true, true, true, true, true, true, true, true, true, true, true, true, true, true, true, true, true, true, false, false, false] rfl rfl (by kernel_rfl) (fun _ _ _ h => h) (Or.inl ⟨by rfl, ?_⟩) ?_ ?_
        rotate_left
        · intro w'
          go_simp
          with_reducible rfl
        rotate_left
        · simp only [Act.put, List.setIfInBounds_toArray, List.set_cons_zero, List.set_cons_succ, i64_w, i32_w]
          rfl
        refine two_ (i := 24) (j := 25) (Ni := some 66) (Nj := some 11) #[true, true, true, true, true, true, true, true, true, true, true, true, true, true, true, true, true, true, true, true, true, true, true, true, true, false, false] #[true, true, true, true, true, true, true, true, true, true, true, true, true, true, true, true, true, true, true, true, true, true, true, true, false, true, false] rfl rfl rfl rfl (by kernel_rfl) (by decide) (by decide) (fun KC hK => ?_) (fun KC hK => ?_)
        · skip
          refine goesV_ hf hname hbody #[.int .i64 t, .agg #[.int .i64 (rd D0 (i : Int)), .int .i64 (rd D1 (i : Int)), .int .i64 (rd D2 (i : Int))]] (by rfl) rfl rfl rfl (by simp [Act.eval]) ?_
          refine (hF t (rd D0 (i : Int)) (rd D1 (i : Int)) (rd D2 (i : Int)) _ HT.out).mono ?_
          rintro _ w3 ⟨rfl, bb⟩
          refine ⟨_, rfl, ?_⟩
          rw [hr0, hr1, hr2]
          have K' := Aside0.mk (K.out.call (below_size K.out.below) bb)
          clear K
          have K := K'
          clear K'
          clear bb hHeld
          refine hK.out _ _ ⟨K.out.cell 0 rfl 4 HC4.out.1, K.out.cell 0 rfl 9 HC4.out.2.1, K.out.cell 0 rfl 14 HC4.out.2.2, HCELL0.out K.out, HCELL1.out K.out, HCELL2.out K.out⟩ (fun hHeld0 => ?_)
          have hHeld := Aside0.mk hHeld0
          clear hHeld0
          clear hK KC
          refine norm_ (a' := ?_) ?_ ?_
          rotate_left
          · show Act.put _ (some 66) _ = _
            simp only [Act.put, List.setIfInBounds_toArray, List.set_cons_zero, List.set_cons_succ, i64_w, i32_w]
            rfl
          refine one_ (i := 25) (N := some 11) #[true, true, true, true, true, true, true, true, true, true, true, true, true, true, true, true, true, true, true, true, true, true, true, true, true, true, false] rfl rfl (by kernel_rfl) (by decide) (fun KC hK => ?_)
          refine box_step ?hg (N := 11) ?hd (cs := #[.int .i64 0, .int .i64 0, .int .i64 0]) (t := 95) ?hr ?_
          case hd => rfl
          case hg => rfl
          case hr => first | (go_simp; done) | (go_simp; rfl)
          intro g11 hg w4 hbox hb
          have K' := Aside0.mk (K.out.box (below_size K.out.below) hg hbox hb trivial)
          clear K
          have K := K'
          clear K'
          clear hg hbox hb hHeld
          refine hK.out _ _ ⟨K.out.cell 1 rfl 4 HC4.out.1, K.out.cell 1 rfl 9 HC4.out.2.1, K.out.cell 1 rfl 14 HC4.out.2.2, HCELL0.out K.out, HCELL1.out K.out, HCELL2.out K.out⟩ (fun hHeld0 => ?_)
          have hHeld := Aside0.mk hHeld0
          clear hHeld0
          clear hK KC
          refine norm_ (a' := ?_) ?_ ?_
          rotate_left
          · show Act.put _ (some 11) _ = _
            simp only [Act.put, List.setIfInBounds_toArray, List.set_cons_zero, List.set_cons_succ, i64_w, i32_w]
            rfl
          refine last_ (i := 26) (N := none) #[true, true, true, true, true, true, true, true, true, true, true, true, true, true, true, true, true, true, true, true, true, true, true, true, true, true, true] rfl rfl (by kernel_rfl) (by decide) (fun KC hK => ?_)
          refine store_step (cs := #[.int .i64 r0, .int .i64 r1, .int .i64 r2]) (by rfl) rfl 95 (.tmp 11) (.tmp 66) rfl rfl (by kernel_rfl) (K.out.get 0 rfl) rfl rfl (by first | (kernel_rfl) | (simp [Value.oneCell'])) ?_
          intro WS hs
          refine hK.out _ _ ?_
          have K' := Aside0.mk (K.out.stored 0 rfl hs)
          clear K
          have K := K'
          clear K'
          clear hK KC hs hHeld
          refine done_ (by kernel_rfl) ?_
          go_wp2
          go_meet
          case rel => exact ⟨_, rfl, ⟨K.out⟩⟩
        · skip
          refine box_step ?hg (N := 11) ?hd (cs := #[.int .i64 0, .int .i64 0, .int .i64 0]) (t := 95) ?hr ?_
          case hd => rfl
          case hg => rfl
          case hr => first | (go_simp; done) | (go_simp; rfl)
          intro g11 hg w4 hbox hb
          have K' := Aside0.mk (K.out.box (below_size K.out.below) hg hbox hb trivial)
          clear K
          have K := K'
          clear K'
          clear hg hbox hb hHeld
          refine hK.out _ _ ⟨K.out.cell 1 rfl 4 HC4.out.1, K.out.cell 1 rfl 9 HC4.out.2.1, K.out.cell 1 rfl 14 HC4.out.2.2, HCELL0.out K.out, HCELL1.out K.out, HCELL2.out K.out⟩ (fun hHeld0 => ?_)
          have hHeld := Aside0.mk hHeld0
          clear hHeld0
          clear hK KC
          refine norm_ (a' := ?_) ?_ ?_
          rotate_left
          · show Act.put _ (some 11) _ = _
            simp only [Act.put, List.setIfInBounds_toArray, List.set_cons_zero, List.set_cons_succ, i64_w, i32_w]
            rfl
          refine one_ (i := 24) (N := some 66) #[true, true, true, true, true, true, true, true, true, true, true, true, true, true, true, true, true, true, true, true, true, true, true, true, true, true, false] rfl rfl (by kernel_rfl) (by decide) (fun KC hK => ?_)
          refine goesV_ hf hname hbody #[.int .i64 t, .agg #[.int .i64 (rd D0 (i : Int)), .int .i64 (rd D1 (i : Int)), .int .i64 (rd D2 (i : Int))]] (by rfl) rfl rfl rfl (by simp [Act.eval]) ?_
          refine (hF t (rd D0 (i : Int)) (rd D1 (i : Int)) (rd D2 (i : Int)) _ HT.out).mono ?_
          rintro _ w3 ⟨rfl, bb⟩
          refine ⟨_, rfl, ?_⟩
          rw [hr0, hr1, hr2]
          have K' := Aside0.mk (K.out.call (below_size K.out.below) bb)
          clear K
          have K := K'
          clear K'
          clear bb hHeld
          refine hK.out _ _ ⟨K.out.cell 1 rfl 4 HC4.out.1, K.out.cell 1 rfl 9 HC4.out.2.1, K.out.cell 1 rfl 14 HC4.out.2.2, HCELL0.out K.out, HCELL1.out K.out, HCELL2.out K.out⟩ (fun hHeld0 => ?_)
          have hHeld := Aside0.mk hHeld0
          clear hHeld0
          clear hK KC
          refine norm_ (a' := ?_) ?_ ?_
          rotate_left
          · show Act.put _ (some 66) _ = _
            simp only [Act.put, List.setIfInBounds_toArray, List.set_cons_zero, List.set_cons_succ, i64_w, i32_w]
            rfl
          refine last_ (i := 26) (N := none) #[true, true, true, true, true, true, true, true, true, true, true, true, true, true, true, true, true, true, true, true, true, true, true, true, true, true, true] rfl rfl (by kernel_rfl) (by decide) (fun KC hK => ?_)
          refine store_step (cs := #[.int .i64 r0, .int .i64 r1, .int .i64 r2]) (by rfl) rfl 95 (.tmp 11) (.tmp 66) rfl rfl (by kernel_rfl) (K.out.get 0 rfl) rfl rfl (by first | (kernel_rfl) | (simp [Value.oneCell'])) ?_
          intro WS hs
          refine hK.out _ _ ?_
          have K' := Aside0.mk (K.out.stored 0 rfl hs)
          clear K
          have K := K'
          clear K'
          clear hK KC hs hHeld
          refine done_ (by kernel_rfl) ?_
          go_wp2
          go_meet
          case rel => exact ⟨_, rfl, ⟨K.out⟩⟩
      case rest =>
      obtain ⟨g11, rfl, K⟩ := hcut
      clear P0 P1 P2
      have HST0 := Aside0.mk (show (chF fq t (fun p => p.1) D0 D1 D2 i).set i r0 = chF fq t (fun p => p.1) D0 D1 D2 (i + 1) by rw [← hr0]; exact chF_set (fun p => p.1) HIX.out.2)
      have HST1 := Aside0.mk (show (chF fq t (fun p => p.2.1) D0 D1 D2 i).set i r1 = chF fq t (fun p => p.2.1) D0 D1 D2 (i + 1) by rw [← hr1]; exact chF_set (fun p => p.2.1) HIX.out.2)
      have HST2 := Aside0.mk (show (chF fq t (fun p => p.2.2) D0 D1 D2 i).set i r2 = chF fq t (fun p => p.2.2) D0 D1 D2 (i + 1) by rw [← hr2]; exact chF_set (fun p => p.2.2) HIX.out.2)
      clear hr0 hr1 hr2 HCELL0 HCELL1 HCELL2
      go_upto_region 14 with (first
        | ((with_reducible refine gate_dst (N := 67) rfl ?_); refine load_all_ev rfl 95 (.tmp 11) rfl rfl (K.out.get 0 rfl) Try.underlying95 rfl rfl ?_))
      go_loopg [68] 3 (fun kr v68 w' => (v68 = .int .i64 0 ∧ kr + 0 = 3 ∧ Aside0 (Hold w.heap.size w w' [(g11, 95, #[.int .i64 r0, .int .i64 r1, .int .i64 r2]), (g7, 26, cs7)] ([(.slice (some ⟨b2, 0, none⟩) D0.length a2, chF fq t (fun p => p.2.2) D0 D1 D2 i), (.slice (some ⟨b1, 0, none⟩) D0.length a1, chF fq t (fun p => p.2.1) D0 D1 D2 i), (.slice (some ⟨b0, 0, none⟩) D0.length a0, chF fq t (fun p => p.1) D0 D1 D2 i)]))) ∨ (v68 = .int .i64 1 ∧ kr + 1 = 3 ∧ Aside0 (Hold w.heap.size w w' [(g11, 95, #[.int .i64 r0, .int .i64 r1, .int .i64 r2]), (g7, 26, cs7)] ([(.slice (some ⟨b2, 0, none⟩) D0.length a2, chF fq t (fun p => p.2.2) D0 D1 D2 i), (.slice (some ⟨b1, 0, none⟩) D0.length a1, chF fq t (fun p => p.2.1) D0 D1 D2 i), (.slice (some ⟨b0, 0, none⟩) D0.length a0, chF fq t (fun p => p.1) D0 D1 D2 (i + 1))]))) ∨ (v68 = .int .i64 2 ∧ kr + 2 = 3 ∧ Aside0 (Hold w.heap.size w w' [(g11, 95, #[.int .i64 r0, .int .i64 r1, .int .i64 r2]), (g7, 26, cs7)] ([(.slice (some ⟨b2, 0, none⟩) D0.length a2, chF fq t (fun p => p.2.2) D0 D1 D2 i), (.slice (some ⟨b1, 0, none⟩) D0.length a1, chF fq t (fun p => p.2.1) D0 D1 D2 (i + 1)), (.slice (some ⟨b0, 0, none⟩) D0.length a0, chF fq t (fun p => p.1) D0 D1 D2 (i + 1))]))) ∨ (v68 = .int .i64 3 ∧ kr + 3 = 3 ∧ Aside0 (Hold w.heap.size w w' [(g11, 95, #[.int .i64 r0, .int .i64 r1, .int .i64 r2]), (g7, 26, cs7)] ([(.slice (some ⟨b2, 0, none⟩) D0.length a2, chF fq t (fun p => p.2.2) D0 D1 D2 (i + 1)), (.slice (some ⟨b1, 0, none⟩) D0.length a1, chF fq t (fun p => p.2.1) D0 D1 D2 (i + 1)), (.slice (some ⟨b0, 0, none⟩) D0.length a0, chF fq t (fun p => p.1) D0 D1 D2 (i + 1))]))))
      case atStart => exact .inl ⟨rfl, rfl, K⟩
      case round =>
      clear K hb0 hb0'
      rcases hrel with ⟨rfl, hgk, K⟩ | ⟨rfl, hgk, K⟩ | ⟨rfl, hgk, K⟩ | ⟨rfl, hgk, K⟩
      · have hb0 : decide ((0 : Int) < 3) = true := rfl
        have p7 : wr.cell? ⟨g7, 4, none⟩ = some (.slice (some ⟨b0, 0, none⟩) D0.length a0) := K.out.cell 1 rfl 4 HC4.out.1
        obtain ⟨hx, hz⟩ := Kd.R_celln (0 : Int) (K.out.rowAt 2 rfl) (i : Int) (by omega) (by have := HIX.out; omega)
        rw [Int.toNat_natCast] at hx hz
        have P1 : ((i : Int) < (D0.length : Int)) = True := eq_true (by have := HIX.out; omega)
        have P2 : (i < D0.length) = True := eq_true HIX.out.2
        have hst := HST0.out
        obtain rfl : gk = 2 + 1 := by omega
        clear hgk
        go_wp2
        have hput := Kd.R_putn (K.out.rowAt 2 rfl) (i : Int) r0
        rw [Int.toNat_natCast] at hput
        have K' := Aside0.mk (K.out.kept (i := 2) rfl rfl ((Kept.refl wr (fun k => k = b0)).setCell (p := ⟨b0, i, none⟩) (.inl rfl) (.int .i64 r0)) hput (K.out.below.setCell (p := ⟨b0, i, none⟩) (Kd.R_base (K.out.rowAt 2 rfl) b0 rfl) _))
        rw [hst] at K'
        clear K hput
        have K := K'
        clear K'
        go_roundg (2)
        case measure => omega
        case rel => exact .inr (.inl ⟨rfl, by omega, ⟨K.out⟩⟩)
      · have hb0 : decide ((1 : Int) < 3) = true := rfl
        have p7 : wr.cell? ⟨g7, 9, none⟩ = some (.slice (some ⟨b1, 0, none⟩) D0.length a1) := K.out.cell 1 rfl 9 HC4.out.2.1
        obtain ⟨hx, hz⟩ := Kd.R_celln (0 : Int) (K.out.rowAt 1 rfl) (i : Int) (by omega) (by have := HIX.out; omega)
        rw [Int.toNat_natCast] at hx hz
        have P1 : ((i : Int) < (D0.length : Int)) = True := eq_true (by have := HIX.out; omega)
        have P2 : (i < D0.length) = True := eq_true HIX.out.2
        have hst := HST1.out
        obtain rfl : gk = 1 + 1 := by omega
        clear hgk
        go_wp2
        have hput := Kd.R_putn (K.out.rowAt 1 rfl) (i : Int) r1
        rw [Int.toNat_natCast] at hput
        have K' := Aside0.mk (K.out.kept (i := 1) rfl rfl ((Kept.refl wr (fun k => k = b1)).setCell (p := ⟨b1, i, none⟩) (.inl rfl) (.int .i64 r1)) hput (K.out.below.setCell (p := ⟨b1, i, none⟩) (Kd.R_base (K.out.rowAt 1 rfl) b1 rfl) _))
        rw [hst] at K'
        clear K hput
        have K := K'
        clear K'
        go_roundg (1)
        case measure => omega
        case rel => exact .inr (.inr (.inl ⟨rfl, by omega, ⟨K.out⟩⟩))
      · have hb0 : decide ((2 : Int) < 3) = true := rfl
        have p7 : wr.cell? ⟨g7, 14, none⟩ = some (.slice (some ⟨b2, 0, none⟩) D0.length a2) := K.out.cell 1 rfl 14 HC4.out.2.2
        obtain ⟨hx, hz⟩ := Kd.R_celln (0 : Int) (K.out.rowAt 0 rfl) (i : Int) (by omega) (by have := HIX.out; omega)
        rw [Int.toNat_natCast] at hx hz
        have P1 : ((i : Int) < (D0.length : Int)) = True := eq_true (by have := HIX.out; omega)
        have P2 : (i < D0.length) = True := eq_true HIX.out.2
        have hst := HST2.out
        obtain rfl : gk = 0 + 1 := by omega
        clear hgk
        go_wp2
        have hput := Kd.R_putn (K.out.rowAt 0 rfl) (i : Int) r2
        rw [Int.toNat_natCast] at hput
        have K' := Aside0.mk (K.out.kept (i := 0) rfl rfl ((Kept.refl wr (fun k => k = b2)).setCell (p := ⟨b2, i, none⟩) (.inl rfl) (.int .i64 r2)) hput (K.out.below.setCell (p := ⟨b2, i, none⟩) (Kd.R_base (K.out.rowAt 0 rfl) b2 rfl) _))
        rw [hst] at K'
        clear K hput
        have K := K'
        clear K'
        go_roundg (0)
        case measure => omega
        case rel => exact .inr (.inr (.inr (⟨rfl, by omega, ⟨K.out⟩⟩)))
      · have hb0 : decide ((3 : Int) < 3) = false := rfl
        clear hgk
        go_wp2
        go_roundg f1
        case measure => omega
        case rel => exact ⟨i + 1, by first | rfl | rw [hwi], by have := HIX.out; omega, ⟨K.out.tl⟩⟩
    · have hb0 : decide ((i : Int) < (D0.length : Int)) = false := decide_eq_false (by omega)
      have hb0' : decide (i < D0.length) = false := decide_eq_false hil
      obtain rfl : i = D0.length := by omega
      clear hi hil
      go_wp2
      go_ret
      refine ⟨g7, c7, .slice A0 D0.length a0, .slice A1 D0.length a1, .slice A2 D0.length a2, rfl, HC7.out, ?_, K.out.below⟩
      refine bds_of_hold K.out (fun j p hp i u hi => ?_) fun p hp => ?_
      · match j, hp with
        | 0, hp =>
          obtain rfl := Option.some.inj hp
          exact HCS.out 0 _ rfl i u hi
        | 1, hp =>
          obtain rfl := Option.some.inj hp
          exact HCS.out 1 _ rfl i u hi
        | 2, hp =>
          obtain rfl := Option.some.inj hp
          exact HCS.out 2 _ rfl i u hi
        | j + 3, hp => simp at hp
      · simp only [List.mem_cons, List.not_mem_nil, or_false] at hp
        rcases hp with rfl | rfl | rfl
        · exact ⟨2, rfl⟩
        · exact ⟨1, rfl⟩
        · exact ⟨0, rfl⟩
end Go.Proofs.Ytcnpekpgghppnaa.Q

/- color.Apply, color.Undo of three planes. Printed by wip/tools of this session. -/
namespace Go.Proofs.Ytcnpekpgghppnaa.Q
open Go.RowKit Go.Proofs.YtcnpekpgghppnaaW.PrintWords Go.Proofs.YtcnpekpgghppnaaW.PrintLast Go.Proofs.YtcnpekpgghppnaaW.PrintMore
set_option linter.unusedVariables false
set_option linter.unusedSimpArgs false

theorem fwd_id (a b c : Int) : fwdPx 0 a b c = (a, b, c) := rfl
theorem inv_id (a b c : Int) : invPx 0 a b c = (a, b, c) := rfl
set_option maxHeartbeats 8000000 in
set_option maxRecDepth 100000 in
theorem color_Apply.good (t : Int) (v0 v1 v2 : Value) (x0 y0 x1 y1 : Int) (D0 D1 D2 : List Int) (gb cN : Nat) (w : World) (ht : t = 0 ∨ t = 1 ∨ t = 2) (hbd : Bds w gb [(v0, ⟨x0, y0, x1, y1, D0⟩), (v1, ⟨x0, y0, x1, y1, D1⟩), (v2, ⟨x0, y0, x1, y1, D2⟩)]) (hcN : 3 ≤ cN) (hal : Alike x0 y0 x1 y1 1048576 [(v0, ⟨x0, y0, x1, y1, D0⟩), (v1, ⟨x0, y0, x1, y1, D1⟩), (v2, ⟨x0, y0, x1, y1, D2⟩)]) (hl0 : D0.length ≤ 1048576) (hl1 : D1.length = D0.length) (hl2 : D2.length = D0.length) :
    Calls Try.prog 22 #[.int .i64 t, .slice (some ⟨gb, 0, none⟩) 3 cN] w fun e w' => ∃ (g c : Nat) (u0 u1 u2 : Value), e = .returned (.tuple #[.slice (some ⟨g, 0, none⟩) 3 c, .int .i64 0]) ∧ 3 ≤ c ∧ Bds w' g [(u0, ⟨x0, y0, x1, y1, chF fwdPx t (fun p => p.1) D0 D1 D2 D0.length⟩), (u1, ⟨x0, y0, x1, y1, chF fwdPx t (fun p => p.2.1) D0 D1 D2 D0.length⟩), (u2, ⟨x0, y0, x1, y1, chF fwdPx t (fun p => p.2.2) D0 D1 D2 D0.length⟩)] ∧ Below w.heap.size w w' := by
  have HBD := Aside0.mk hbd
  have HC := Aside0.mk hcN
  have HA := Aside0.mk hal
  have HT := Aside0.mk ht
  have HL := Aside0.mk (And.intro hl0 (And.intro hl1 hl2))
  clear hbd hcN hal ht hl0 hl1 hl2
  go_enter Try.func22, Try.ntmps22
  go_wp2_with (first
    | (go_at_call 51; (with_reducible refine (color_check.good t x0 y0 x1 y1 1048576 _ gb cN _ HT.out HBD.out ⟨rfl, HC.out⟩ HA.out (by decide)).mono ?_); rintro _ w1 ⟨rfl, b⟩; have B1 := Aside0.mk b; clear b)
    | (go_at_call 52; (with_reducible refine (color_change.good 53 _ Try.func53 (by kernel_rfl) rfl fwdPx fwd_pix fwd_id t v0 v1 v2 x0 y0 x1 y1 D0 D1 D2 gb cN _ HT.out (HBD.out.below B1.out) HC.out HL.out.1 HL.out.2.1 HL.out.2.2).mono ?_); rintro _ w2 ⟨g, c, u0, u1, u2, rfl, hc, hb2, b⟩; have R := Aside0.mk (And.intro hc (And.intro hb2 (B1.out.trans (b.mono (below_size B1.out))))); clear hc hb2 b))
  go_ret2
  exact ⟨g, c, u0, u1, u2, rfl, R.out.1, R.out.2.1, R.out.2.2⟩
set_option maxHeartbeats 8000000 in
set_option maxRecDepth 100000 in
theorem color_Undo.good (t : Int) (v0 v1 v2 : Value) (x0 y0 x1 y1 : Int) (D0 D1 D2 : List Int) (gb cN : Nat) (w : World) (ht : t = 0 ∨ t = 1 ∨ t = 2) (hbd : Bds w gb [(v0, ⟨x0, y0, x1, y1, D0⟩), (v1, ⟨x0, y0, x1, y1, D1⟩), (v2, ⟨x0, y0, x1, y1, D2⟩)]) (hcN : 3 ≤ cN) (hal : Alike x0 y0 x1 y1 281474976710656 [(v0, ⟨x0, y0, x1, y1, D0⟩), (v1, ⟨x0, y0, x1, y1, D1⟩), (v2, ⟨x0, y0, x1, y1, D2⟩)]) (hl0 : D0.length ≤ 1048576) (hl1 : D1.length = D0.length) (hl2 : D2.length = D0.length) :
    Calls Try.prog 23 #[.int .i64 t, .slice (some ⟨gb, 0, none⟩) 3 cN] w fun e w' => ∃ (g c : Nat) (u0 u1 u2 : Value), e = .returned (.tuple #[.slice (some ⟨g, 0, none⟩) 3 c, .int .i64 0]) ∧ 3 ≤ c ∧ Bds w' g [(u0, ⟨x0, y0, x1, y1, chF invPx t (fun p => p.1) D0 D1 D2 D0.length⟩), (u1, ⟨x0, y0, x1, y1, chF invPx t (fun p => p.2.1) D0 D1 D2 D0.length⟩), (u2, ⟨x0, y0, x1, y1, chF invPx t (fun p => p.2.2) D0 D1 D2 D0.length⟩)] ∧ Below w.heap.size w w' := by
  have HBD := Aside0.mk hbd
  have HC := Aside0.mk hcN
  have HA := Aside0.mk hal
  have HT := Aside0.mk ht
  have HL := Aside0.mk (And.intro hl0 (And.intro hl1 hl2))
  clear hbd hcN hal ht hl0 hl1 hl2
  go_enter Try.func23, Try.ntmps23
  go_wp2_with (first
    | (go_at_call 51; (with_reducible refine (color_check.good t x0 y0 x1 y1 281474976710656 _ gb cN _ HT.out HBD.out ⟨rfl, HC.out⟩ HA.out (by decide)).mono ?_); rintro _ w1 ⟨rfl, b⟩; have B1 := Aside0.mk b; clear b)
    | (go_at_call 52; (with_reducible refine (color_change.good 54 _ Try.func54 (by kernel_rfl) rfl invPx inv_pix inv_id t v0 v1 v2 x0 y0 x1 y1 D0 D1 D2 gb cN _ HT.out (HBD.out.below B1.out) HC.out HL.out.1 HL.out.2.1 HL.out.2.2).mono ?_); rintro _ w2 ⟨g, c, u0, u1, u2, rfl, hc, hb2, b⟩; have R := Aside0.mk (And.intro hc (And.intro hb2 (B1.out.trans (b.mono (below_size B1.out))))); clear hc hb2 b))
  go_ret2
  exact ⟨g, c, u0, u1, u2, rfl, R.out.1, R.out.2.1, R.out.2.2⟩
end Go.Proofs.Ytcnpekpgghppnaa.Q

namespace Go.Proofs.Ytcnpekpgghppnaa.Q
open Go.RowKit Go.Proofs.YtcnpekpgghppnaaW.PrintWords Go.Proofs.YtcnpekpgghppnaaW.PrintLast Go.Proofs.YtcnpekpgghppnaaW.PrintMore
attribute [local go_sem] max2_int min2_int max_two min_two max_three min_three max_four min_four   -- for this text's walks alone
set_option linter.unusedVariables false
set_option linter.unusedSimpArgs false

/-! ### waveletref01_Valid: function 8 -/
def waveletref01_Valid.f (a0_0 : Int) (a0_1 : Int) (a0_2 : Int) (a0_3 : Int) : Option (Bool) := if 0 ≤ a0_0 then (if a0_0 ≤ a0_2 then (if a0_2 ≤ 4096 then (if 0 ≤ a0_1 then (if a0_1 ≤ a0_3 then (some (decide (a0_3 ≤ 4096))) else (some false)) else (some false)) else (some false)) else (some false)) else (some false)
set_option maxHeartbeats 8000000 in
set_option maxRecDepth 100000 in
theorem waveletref01_Valid.calls (a0_0 : Int) (a0_1 : Int) (a0_2 : Int) (a0_3 : Int) (r : Bool) (w : World) (h : waveletref01_Valid.f a0_0 a0_1 a0_2 a0_3 = some r) :
    Calls Try.prog 8 #[.agg #[.int .i64 a0_0, .int .i64 a0_1, .int .i64 a0_2, .int .i64 a0_3]] w fun e w' => e = .returned (.bool r) ∧ Below w.heap.size w w' := by
  have hu23 := Try.underlying23
  have HB := Aside0.mk (Below.refl w.heap.size w)
  have H : (if 0 ≤ a0_0 then (if a0_0 ≤ a0_2 then (if a0_2 ≤ 4096 then (if 0 ≤ a0_1 then (if a0_1 ≤ a0_3 then (some (decide (a0_3 ≤ 4096))) else (some false)) else (some false)) else (some false)) else (some false)) else (some false)) = some r := h
  clear h
  by_cases c2 : 0 ≤ a0_0
  · rw [if_pos c2] at H
    have c2b0 : decide (0 ≤ a0_0) = true := decide_eq_true c2
    clear c2
    by_cases c3 : a0_0 ≤ a0_2
    · rw [if_pos c3] at H
      have c3b0 : decide (a0_0 ≤ a0_2) = true := decide_eq_true c3
      clear c3
      by_cases c4 : a0_2 ≤ 4096
      · rw [if_pos c4] at H
        have c4b0 : decide (a0_2 ≤ 4096) = true := decide_eq_true c4
        clear c4
        by_cases c5 : 0 ≤ a0_1
        · rw [if_pos c5] at H
          have c5b0 : decide (0 ≤ a0_1) = true := decide_eq_true c5
          clear c5
          by_cases c6 : a0_1 ≤ a0_3
          · rw [if_pos c6] at H
            have c6b0 : decide (a0_1 ≤ a0_3) = true := decide_eq_true c6
            clear c6
            obtain rfl := Option.some.inj H
            go_enter Try.func8, Try.ntmps8
            go_wp2_with (first | ((with_reducible refine gate_dst (N := 1) rfl ?_); refine box_event ?hg (N := 1) ?hd (cs := #[.int .i64 a0_0, .int .i64 a0_1, .int .i64 a0_2, .int .i64 a0_3]) (t := 23) ?hr ?_; (case hd => rfl); (case hg => rfl); (case hr => first | (go_simp; done) | (go_simp; rfl)); intro gb101 hg w7 hbox hb; have n0_ := Aside0.mk (below_step (by repeat (first | (with_reducible first | exact HB.out | apply below_alloc | apply pw_below_drewN | apply below_drew1) | exact HB.out)) hb); have n1_ := Aside0.mk (hbox); have n2_ := Aside0.mk ((by rw [hg]; exact (below_size (by repeat (first | (with_reducible first | exact HB.out | apply below_alloc | apply pw_below_drewN | apply below_drew1) | exact HB.out))) : w.heap.size ≤ gb101)); have n3_ := Aside0.mk ((by rw [hg]; exact (below_size (by repeat (first | (with_reducible first | exact HB.out | apply below_alloc | apply pw_below_drewN | apply below_drew1) | exact HB.out))) : w.heap.size ≤ gb101)); clear HB; have HB := n0_; have BK101 := n1_; have GW101 := n2_; have GE101 := n3_; clear n0_ n1_ n2_ n3_; clear hb hbox hg; have hcz8_0 : w7.cell? ⟨gb101, 0, none⟩ = some (.int .i64 a0_0) := (blk_cell BK101.out 0).trans rfl; have hcz8_1 : w7.cell? ⟨gb101, 1, none⟩ = some (.int .i64 a0_1) := (blk_cell BK101.out 1).trans rfl; have hcz8_2 : w7.cell? ⟨gb101, 2, none⟩ = some (.int .i64 a0_2) := (blk_cell BK101.out 2).trans rfl; have hcz8_3 : w7.cell? ⟨gb101, 3, none⟩ = some (.int .i64 a0_3) := (blk_cell BK101.out 3).trans rfl; have hfz8_0 := blk_frozen BK101.out 0; have hfz8_1 := blk_frozen BK101.out 1; have hfz8_2 := blk_frozen BK101.out 2; have hfz8_3 := blk_frozen BK101.out 3))
            go_ret
            exact ⟨by first | rfl | (simp [errW_none, errW_some] <;> rfl) | (simp [*, errW_none, errW_some] <;> rfl), by repeat (first | (with_reducible first | exact HB.out | apply below_alloc | apply pw_below_drewN | apply below_drew1 | refine below_set ?_ GE101.out) | exact HB.out)⟩
          · rw [if_neg c6] at H
            have c6b0 : decide (a0_1 ≤ a0_3) = false := decide_eq_false c6
            clear c6
            obtain rfl := Option.some.inj H
            go_enter Try.func8, Try.ntmps8
            go_wp2_with (first | ((with_reducible refine gate_dst (N := 1) rfl ?_); refine box_event ?hg (N := 1) ?hd (cs := #[.int .i64 a0_0, .int .i64 a0_1, .int .i64 a0_2, .int .i64 a0_3]) (t := 23) ?hr ?_; (case hd => rfl); (case hg => rfl); (case hr => first | (go_simp; done) | (go_simp; rfl)); intro gb101 hg w9 hbox hb; have n0_ := Aside0.mk (below_step (by repeat (first | (with_reducible first | exact HB.out | apply below_alloc | apply pw_below_drewN | apply below_drew1) | exact HB.out)) hb); have n1_ := Aside0.mk (hbox); have n2_ := Aside0.mk ((by rw [hg]; exact (below_size (by repeat (first | (with_reducible first | exact HB.out | apply below_alloc | apply pw_below_drewN | apply below_drew1) | exact HB.out))) : w.heap.size ≤ gb101)); have n3_ := Aside0.mk ((by rw [hg]; exact (below_size (by repeat (first | (with_reducible first | exact HB.out | apply below_alloc | apply pw_below_drewN | apply below_drew1) | exact HB.out))) : w.heap.size ≤ gb101)); clear HB; have HB := n0_; have BK101 := n1_; have GW101 := n2_; have GE101 := n3_; clear n0_ n1_ n2_ n3_; clear hb hbox hg; have hcz10_0 : w9.cell? ⟨gb101, 0, none⟩ = some (.int .i64 a0_0) := (blk_cell BK101.out 0).trans rfl; have hcz10_1 : w9.cell? ⟨gb101, 1, none⟩ = some (.int .i64 a0_1) := (blk_cell BK101.out 1).trans rfl; have hcz10_2 : w9.cell? ⟨gb101, 2, none⟩ = some (.int .i64 a0_2) := (blk_cell BK101.out 2).trans rfl; have hcz10_3 : w9.cell? ⟨gb101, 3, none⟩ = some (.int .i64 a0_3) := (blk_cell BK101.out 3).trans rfl; have hfz10_0 := blk_frozen BK101.out 0; have hfz10_1 := blk_frozen BK101.out 1; have hfz10_2 := blk_frozen BK101.out 2; have hfz10_3 := blk_frozen BK101.out 3))
            go_ret
            exact ⟨by first | rfl | (simp [errW_none, errW_some] <;> rfl) | (simp [*, errW_none, errW_some] <;> rfl), by repeat (first | (with_reducible first | exact HB.out | apply below_alloc | apply pw_below_drewN | apply below_drew1 | refine below_set ?_ GE101.out) | exact HB.out)⟩
        · rw [if_neg c5] at H
          have c5b0 : decide (0 ≤ a0_1) = false := decide_eq_false c5
          clear c5
          obtain rfl := Option.some.inj H
          go_enter Try.func8, Try.ntmps8
          go_wp2_with (first | ((with_reducible refine gate_dst (N := 1) rfl ?_); refine box_event ?hg (N := 1) ?hd (cs := #[.int .i64 a0_0, .int .i64 a0_1, .int .i64 a0_2, .int .i64 a0_3]) (t := 23) ?hr ?_; (case hd => rfl); (case hg => rfl); (case hr => first | (go_simp; done) | (go_simp; rfl)); intro gb101 hg w11 hbox hb; have n0_ := Aside0.mk (below_step (by repeat (first | (with_reducible first | exact HB.out | apply below_alloc | apply pw_below_drewN | apply below_drew1) | exact HB.out)) hb); have n1_ := Aside0.mk (hbox); have n2_ := Aside0.mk ((by rw [hg]; exact (below_size (by repeat (first | (with_reducible first | exact HB.out | apply below_alloc | apply pw_below_drewN | apply below_drew1) | exact HB.out))) : w.heap.size ≤ gb101)); have n3_ := Aside0.mk ((by rw [hg]; exact (below_size (by repeat (first | (with_reducible first | exact HB.out | apply below_alloc | apply pw_below_drewN | apply below_drew1) | exact HB.out))) : w.heap.size ≤ gb101)); clear HB; have HB := n0_; have BK101 := n1_; have GW101 := n2_; have GE101 := n3_; clear n0_ n1_ n2_ n3_; clear hb hbox hg; have hcz12_0 : w11.cell? ⟨gb101, 0, none⟩ = some (.int .i64 a0_0) := (blk_cell BK101.out 0).trans rfl; have hcz12_1 : w11.cell? ⟨gb101, 1, none⟩ = some (.int .i64 a0_1) := (blk_cell BK101.out 1).trans rfl; have hcz12_2 : w11.cell? ⟨gb101, 2, none⟩ = some (.int .i64 a0_2) := (blk_cell BK101.out 2).trans rfl; have hcz12_3 : w11.cell? ⟨gb101, 3, none⟩ = some (.int .i64 a0_3) := (blk_cell BK101.out 3).trans rfl; have hfz12_0 := blk_frozen BK101.out 0; have hfz12_1 := blk_frozen BK101.out 1; have hfz12_2 := blk_frozen BK101.out 2; have hfz12_3 := blk_frozen BK101.out 3))
          go_ret
          exact ⟨by first | rfl | (simp [errW_none, errW_some] <;> rfl) | (simp [*, errW_none, errW_some] <;> rfl), by repeat (first | (with_reducible first | exact HB.out | apply below_alloc | apply pw_below_drewN | apply below_drew1 | refine below_set ?_ GE101.out) | exact HB.out)⟩
      · rw [if_neg c4] at H
        have c4b0 : decide (a0_2 ≤ 4096) = false := decide_eq_false c4
        clear c4
        obtain rfl := Option.some.inj H
        go_enter Try.func8, Try.ntmps8
        go_wp2_with (first | ((with_reducible refine gate_dst (N := 1) rfl ?_); refine box_event ?hg (N := 1) ?hd (cs := #[.int .i64 a0_0, .int .i64 a0_1, .int .i64 a0_2, .int .i64 a0_3]) (t := 23) ?hr ?_; (case hd => rfl); (case hg => rfl); (case hr => first | (go_simp; done) | (go_simp; rfl)); intro gb101 hg w13 hbox hb; have n0_ := Aside0.mk (below_step (by repeat (first | (with_reducible first | exact HB.out | apply below_alloc | apply pw_below_drewN | apply below_drew1) | exact HB.out)) hb); have n1_ := Aside0.mk (hbox); have n2_ := Aside0.mk ((by rw [hg]; exact (below_size (by repeat (first | (with_reducible first | exact HB.out | apply below_alloc | apply pw_below_drewN | apply below_drew1) | exact HB.out))) : w.heap.size ≤ gb101)); have n3_ := Aside0.mk ((by rw [hg]; exact (below_size (by repeat (first | (with_reducible first | exact HB.out | apply below_alloc | apply pw_below_drewN | apply below_drew1) | exact HB.out))) : w.heap.size ≤ gb101)); clear HB; have HB := n0_; have BK101 := n1_; have GW101 := n2_; have GE101 := n3_; clear n0_ n1_ n2_ n3_; clear hb hbox hg; have hcz14_0 : w13.cell? ⟨gb101, 0, none⟩ = some (.int .i64 a0_0) := (blk_cell BK101.out 0).trans rfl; have hcz14_1 : w13.cell? ⟨gb101, 1, none⟩ = some (.int .i64 a0_1) := (blk_cell BK101.out 1).trans rfl; have hcz14_2 : w13.cell? ⟨gb101, 2, none⟩ = some (.int .i64 a0_2) := (blk_cell BK101.out 2).trans rfl; have hcz14_3 : w13.cell? ⟨gb101, 3, none⟩ = some (.int .i64 a0_3) := (blk_cell BK101.out 3).trans rfl; have hfz14_0 := blk_frozen BK101.out 0; have hfz14_1 := blk_frozen BK101.out 1; have hfz14_2 := blk_frozen BK101.out 2; have hfz14_3 := blk_frozen BK101.out 3))
        go_ret
        exact ⟨by first | rfl | (simp [errW_none, errW_some] <;> rfl) | (simp [*, errW_none, errW_some] <;> rfl), by repeat (first | (with_reducible first | exact HB.out | apply below_alloc | apply pw_below_drewN | apply below_drew1 | refine below_set ?_ GE101.out) | exact HB.out)⟩
    · rw [if_neg c3] at H
      have c3b0 : decide (a0_0 ≤ a0_2) = false := decide_eq_false c3
      clear c3
      obtain rfl := Option.some.inj H
      go_enter Try.func8, Try.ntmps8
      go_wp2_with (first | ((with_reducible refine gate_dst (N := 1) rfl ?_); refine box_event ?hg (N := 1) ?hd (cs := #[.int .i64 a0_0, .int .i64 a0_1, .int .i64 a0_2, .int .i64 a0_3]) (t := 23) ?hr ?_; (case hd => rfl); (case hg => rfl); (case hr => first | (go_simp; done) | (go_simp; rfl)); intro gb101 hg w15 hbox hb; have n0_ := Aside0.mk (below_step (by repeat (first | (with_reducible first | exact HB.out | apply below_alloc | apply pw_below_drewN | apply below_drew1) | exact HB.out)) hb); have n1_ := Aside0.mk (hbox); have n2_ := Aside0.mk ((by rw [hg]; exact (below_size (by repeat (first | (with_reducible first | exact HB.out | apply below_alloc | apply pw_below_drewN | apply below_drew1) | exact HB.out))) : w.heap.size ≤ gb101)); have n3_ := Aside0.mk ((by rw [hg]; exact (below_size (by repeat (first | (with_reducible first | exact HB.out | apply below_alloc | apply pw_below_drewN | apply below_drew1) | exact HB.out))) : w.heap.size ≤ gb101)); clear HB; have HB := n0_; have BK101 := n1_; have GW101 := n2_; have GE101 := n3_; clear n0_ n1_ n2_ n3_; clear hb hbox hg; have hcz16_0 : w15.cell? ⟨gb101, 0, none⟩ = some (.int .i64 a0_0) := (blk_cell BK101.out 0).trans rfl; have hcz16_1 : w15.cell? ⟨gb101, 1, none⟩ = some (.int .i64 a0_1) := (blk_cell BK101.out 1).trans rfl; have hcz16_2 : w15.cell? ⟨gb101, 2, none⟩ = some (.int .i64 a0_2) := (blk_cell BK101.out 2).trans rfl; have hcz16_3 : w15.cell? ⟨gb101, 3, none⟩ = some (.int .i64 a0_3) := (blk_cell BK101.out 3).trans rfl; have hfz16_0 := blk_frozen BK101.out 0; have hfz16_1 := blk_frozen BK101.out 1; have hfz16_2 := blk_frozen BK101.out 2; have hfz16_3 := blk_frozen BK101.out 3))
      go_ret
      exact ⟨by first | rfl | (simp [errW_none, errW_some] <;> rfl) | (simp [*, errW_none, errW_some] <;> rfl), by repeat (first | (with_reducible first | exact HB.out | apply below_alloc | apply pw_below_drewN | apply below_drew1 | refine below_set ?_ GE101.out) | exact HB.out)⟩
  · rw [if_neg c2] at H
    have c2b0 : decide (0 ≤ a0_0) = false := decide_eq_false c2
    clear c2
    obtain rfl := Option.some.inj H
    go_enter Try.func8, Try.ntmps8
    go_wp2_with (first | ((with_reducible refine gate_dst (N := 1) rfl ?_); refine box_event ?hg (N := 1) ?hd (cs := #[.int .i64 a0_0, .int .i64 a0_1, .int .i64 a0_2, .int .i64 a0_3]) (t := 23) ?hr ?_; (case hd => rfl); (case hg => rfl); (case hr => first | (go_simp; done) | (go_simp; rfl)); intro gb101 hg w17 hbox hb; have n0_ := Aside0.mk (below_step (by repeat (first | (with_reducible first | exact HB.out | apply below_alloc | apply pw_below_drewN | apply below_drew1) | exact HB.out)) hb); have n1_ := Aside0.mk (hbox); have n2_ := Aside0.mk ((by rw [hg]; exact (below_size (by repeat (first | (with_reducible first | exact HB.out | apply below_alloc | apply pw_below_drewN | apply below_drew1) | exact HB.out))) : w.heap.size ≤ gb101)); have n3_ := Aside0.mk ((by rw [hg]; exact (below_size (by repeat (first | (with_reducible first | exact HB.out | apply below_alloc | apply pw_below_drewN | apply below_drew1) | exact HB.out))) : w.heap.size ≤ gb101)); clear HB; have HB := n0_; have BK101 := n1_; have GW101 := n2_; have GE101 := n3_; clear n0_ n1_ n2_ n3_; clear hb hbox hg; have hcz18_0 : w17.cell? ⟨gb101, 0, none⟩ = some (.int .i64 a0_0) := (blk_cell BK101.out 0).trans rfl; have hcz18_1 : w17.cell? ⟨gb101, 1, none⟩ = some (.int .i64 a0_1) := (blk_cell BK101.out 1).trans rfl; have hcz18_2 : w17.cell? ⟨gb101, 2, none⟩ = some (.int .i64 a0_2) := (blk_cell BK101.out 2).trans rfl; have hcz18_3 : w17.cell? ⟨gb101, 3, none⟩ = some (.int .i64 a0_3) := (blk_cell BK101.out 3).trans rfl; have hfz18_0 := blk_frozen BK101.out 0; have hfz18_1 := blk_frozen BK101.out 1; have hfz18_2 := blk_frozen BK101.out 2; have hfz18_3 := blk_frozen BK101.out 3))
    go_ret
    exact ⟨by first | rfl | (simp [errW_none, errW_some] <;> rfl) | (simp [*, errW_none, errW_some] <;> rfl), by repeat (first | (with_reducible first | exact HB.out | apply below_alloc | apply pw_below_drewN | apply below_drew1 | refine below_set ?_ GE101.out) | exact HB.out)⟩

end Go.Proofs.Ytcnpekpgghppnaa.Q

namespace Go.Proofs.Ytcnpekpgghppnaa.Q
open Go.RowKit Go.Proofs.YtcnpekpgghppnaaW.PrintWords Go.Proofs.YtcnpekpgghppnaaW.PrintLast Go.Proofs.YtcnpekpgghppnaaW.PrintMore
attribute [local go_sem] max2_int min2_int max_two min_two max_three min_three max_four min_four   -- for this text's walks alone
set_option linter.unusedVariables false
set_option linter.unusedSimpArgs false

/-! ### waveletref01_Area: function 55 -/
def waveletref01_Area.f (a0_0 : Int) (a0_1 : Int) (a0_2 : Int) (a0_3 : Int) : Option (Int) := (waveletref01_Valid.f a0_0 a0_1 a0_2 a0_3).bind fun t103 => (if t103 = true then (some (wrap64 ((wrap64 (a0_2 - a0_0)) * (wrap64 (a0_3 - a0_1))))) else (some 0))
set_option maxHeartbeats 8000000 in
set_option maxRecDepth 100000 in
theorem waveletref01_Area.calls (a0_0 : Int) (a0_1 : Int) (a0_2 : Int) (a0_3 : Int) (r : Int) (w : World) (h : waveletref01_Area.f a0_0 a0_1 a0_2 a0_3 = some r) :
    Calls Try.prog 55 #[.agg #[.int .i64 a0_0, .int .i64 a0_1, .int .i64 a0_2, .int .i64 a0_3]] w fun e w' => e = .returned (.int .i64 r) ∧ Below w.heap.size w w' := by
  have hu23 := Try.underlying23
  have HB := Aside0.mk (Below.refl w.heap.size w)
  have H : ((waveletref01_Valid.f a0_0 a0_1 a0_2 a0_3).bind fun t103 => (if t103 = true then (some (wrap64 ((wrap64 (a0_2 - a0_0)) * (wrap64 (a0_3 - a0_1))))) else (some 0))) = some r := h
  clear h
  replace H := Option.bind_eq_some_iff.mp H
  obtain ⟨t103, A20, H⟩ := H
  replace H : (if t103 = true then (some (wrap64 ((wrap64 (a0_2 - a0_0)) * (wrap64 (a0_3 - a0_1))))) else (some 0)) = some r := H
  have A2 := Aside0.mk A20
  clear A20
  by_cases c3 : t103 = true
  · subst c3
    have H1 : (some (wrap64 ((wrap64 (a0_2 - a0_0)) * (wrap64 (a0_3 - a0_1))))) = some r := by rw [if_pos rfl] at H; exact H
    clear H
    have H := H1
    clear H1
    obtain rfl := Option.some.inj H
    go_enter Try.func55, Try.ntmps55
    go_wp2_with (first | ((with_reducible refine gate_dst (N := 1) rfl ?_); refine box_event ?hg (N := 1) ?hd (cs := #[.int .i64 a0_0, .int .i64 a0_1, .int .i64 a0_2, .int .i64 a0_3]) (t := 23) ?hr ?_; (case hd => rfl); (case hg => rfl); (case hr => first | (go_simp; done) | (go_simp; rfl)); intro gb102 hg w4 hbox hb; have n0_ := Aside0.mk (below_step (by repeat (first | (with_reducible first | exact HB.out | apply below_alloc | apply pw_below_drewN | apply below_drew1) | exact HB.out)) hb); have n1_ := Aside0.mk (hbox); have n2_ := Aside0.mk ((by rw [hg]; exact (below_size (by repeat (first | (with_reducible first | exact HB.out | apply below_alloc | apply pw_below_drewN | apply below_drew1) | exact HB.out))) : w.heap.size ≤ gb102)); have n3_ := Aside0.mk ((by rw [hg]; exact (below_size (by repeat (first | (with_reducible first | exact HB.out | apply below_alloc | apply pw_below_drewN | apply below_drew1) | exact HB.out))) : w.heap.size ≤ gb102)); clear HB; have HB := n0_; have BK102 := n1_; have GW102 := n2_; have GE102 := n3_; clear n0_ n1_ n2_ n3_; clear hb hbox hg; have hcz5_0 : w4.cell? ⟨gb102, 0, none⟩ = some (.int .i64 a0_0) := (blk_cell BK102.out 0).trans rfl; have hcz5_1 : w4.cell? ⟨gb102, 1, none⟩ = some (.int .i64 a0_1) := (blk_cell BK102.out 1).trans rfl; have hcz5_2 : w4.cell? ⟨gb102, 2, none⟩ = some (.int .i64 a0_2) := (blk_cell BK102.out 2).trans rfl; have hcz5_3 : w4.cell? ⟨gb102, 3, none⟩ = some (.int .i64 a0_3) := (blk_cell BK102.out 3).trans rfl; have hfz5_0 := blk_frozen BK102.out 0; have hfz5_1 := blk_frozen BK102.out 1; have hfz5_2 := blk_frozen BK102.out 2; have hfz5_3 := blk_frozen BK102.out 3) | ((with_reducible refine gate_callee (f := 8) rfl ?_); refine goesL_ (some 4) rfl rfl Try.func8 (by kernel_rfl) rfl #[.agg #[.int .i64 a0_0, .int .i64 a0_1, .int .i64 a0_2, .int .i64 a0_3]] rfl (by (try simp only [List.map_toArray, List.map_cons, List.map_nil]); first | done | rfl | (simp only [List.length_drop, List.length_take]; rfl)) ?_; (with_reducible refine (waveletref01_Valid.calls a0_0 a0_1 a0_2 a0_3 true _ A2.out).mono ?_); rintro e w6 ⟨rfl, hb⟩; refine ⟨_, rfl, ?_⟩; have n0_ := Aside0.mk (blk_below (g := gb102) (o := .cells #[.int .i64 a0_0, .int .i64 a0_1, .int .i64 a0_2, .int .i64 a0_3] 23 (0, 0)) (by (with_reducible repeat (first | refine blk_drewN ?_ _ | refine blk_drew ?_ | refine blk_alloc ?_ _)); exact BK102.out) hb); have n1_ := Aside0.mk (below_step (by repeat (first | (with_reducible first | exact HB.out | apply below_alloc | apply pw_below_drewN | apply below_drew1 | refine below_set ?_ GE102.out) | exact HB.out)) hb); clear BK102; clear HB; have BK102 := n0_; have HB := n1_; clear n0_ n1_; (try clear hb); (try clear hb2); (try clear hk); (try clear hi); have hcz7_0 : w6.cell? ⟨gb102, 0, none⟩ = some (.int .i64 a0_0) := (blk_cell BK102.out 0).trans rfl; have hcz7_1 : w6.cell? ⟨gb102, 1, none⟩ = some (.int .i64 a0_1) := (blk_cell BK102.out 1).trans rfl; have hcz7_2 : w6.cell? ⟨gb102, 2, none⟩ = some (.int .i64 a0_2) := (blk_cell BK102.out 2).trans rfl; have hcz7_3 : w6.cell? ⟨gb102, 3, none⟩ = some (.int .i64 a0_3) := (blk_cell BK102.out 3).trans rfl; have hfz7_0 := blk_frozen BK102.out 0; have hfz7_1 := blk_frozen BK102.out 1; have hfz7_2 := blk_frozen BK102.out 2; have hfz7_3 := blk_frozen BK102.out 3))
    go_ret
    exact ⟨by first | rfl | (simp [errW_none, errW_some] <;> rfl) | (simp [*, errW_none, errW_some] <;> rfl), by repeat (first | (with_reducible first | exact HB.out | apply below_alloc | apply pw_below_drewN | apply below_drew1 | refine below_set ?_ GE102.out) | exact HB.out)⟩
  · replace c3 := Bool.eq_false_iff.mpr c3
    subst c3
    have H1 : (some 0) = some r := by rw [if_neg (show ¬ (false = true) by decide)] at H; exact H
    clear H
    have H := H1
    clear H1
    obtain rfl := Option.some.inj H
    go_enter Try.func55, Try.ntmps55
    go_wp2_with (first | ((with_reducible refine gate_dst (N := 1) rfl ?_); refine box_event ?hg (N := 1) ?hd (cs := #[.int .i64 a0_0, .int .i64 a0_1, .int .i64 a0_2, .int .i64 a0_3]) (t := 23) ?hr ?_; (case hd => rfl); (case hg => rfl); (case hr => first | (go_simp; done) | (go_simp; rfl)); intro gb102 hg w8 hbox hb; have n0_ := Aside0.mk (below_step (by repeat (first | (with_reducible first | exact HB.out | apply below_alloc | apply pw_below_drewN | apply below_drew1) | exact HB.out)) hb); have n1_ := Aside0.mk (hbox); have n2_ := Aside0.mk ((by rw [hg]; exact (below_size (by repeat (first | (with_reducible first | exact HB.out | apply below_alloc | apply pw_below_drewN | apply below_drew1) | exact HB.out))) : w.heap.size ≤ gb102)); have n3_ := Aside0.mk ((by rw [hg]; exact (below_size (by repeat (first | (with_reducible first | exact HB.out | apply below_alloc | apply pw_below_drewN | apply below_drew1) | exact HB.out))) : w.heap.size ≤ gb102)); clear HB; have HB := n0_; have BK102 := n1_; have GW102 := n2_; have GE102 := n3_; clear n0_ n1_ n2_ n3_; clear hb hbox hg; have hcz9_0 : w8.cell? ⟨gb102, 0, none⟩ = some (.int .i64 a0_0) := (blk_cell BK102.out 0).trans rfl; have hcz9_1 : w8.cell? ⟨gb102, 1, none⟩ = some (.int .i64 a0_1) := (blk_cell BK102.out 1).trans rfl; have hcz9_2 : w8.cell? ⟨gb102, 2, none⟩ = some (.int .i64 a0_2) := (blk_cell BK102.out 2).trans rfl; have hcz9_3 : w8.cell? ⟨gb102, 3, none⟩ = some (.int .i64 a0_3) := (blk_cell BK102.out 3).trans rfl; have hfz9_0 := blk_frozen BK102.out 0; have hfz9_1 := blk_frozen BK102.out 1; have hfz9_2 := blk_frozen BK102.out 2; have hfz9_3 := blk_frozen BK102.out 3) | ((with_reducible refine gate_callee (f := 8) rfl ?_); refine goesL_ (some 4) rfl rfl Try.func8 (by kernel_rfl) rfl #[.agg #[.int .i64 a0_0, .int .i64 a0_1, .int .i64 a0_2, .int .i64 a0_3]] rfl (by (try simp only [List.map_toArray, List.map_cons, List.map_nil]); first | done | rfl | (simp only [List.length_drop, List.length_take]; rfl)) ?_; (with_reducible refine (waveletref01_Valid.calls a0_0 a0_1 a0_2 a0_3 false _ A2.out).mono ?_); rintro e w10 ⟨rfl, hb⟩; refine ⟨_, rfl, ?_⟩; have n0_ := Aside0.mk (blk_below (g := gb102) (o := .cells #[.int .i64 a0_0, .int .i64 a0_1, .int .i64 a0_2, .int .i64 a0_3] 23 (0, 0)) (by (with_reducible repeat (first | refine blk_drewN ?_ _ | refine blk_drew ?_ | refine blk_alloc ?_ _)); exact BK102.out) hb); have n1_ := Aside0.mk (below_step (by repeat (first | (with_reducible first | exact HB.out | apply below_alloc | apply pw_below_drewN | apply below_drew1 | refine below_set ?_ GE102.out) | exact HB.out)) hb); clear BK102; clear HB; have BK102 := n0_; have HB := n1_; clear n0_ n1_; (try clear hb); (try clear hb2); (try clear hk); (try clear hi)))
    go_ret
    exact ⟨by first | rfl | (simp [errW_none, errW_some] <;> rfl) | (simp [*, errW_none, errW_some] <;> rfl), by repeat (first | (with_reducible first | exact HB.out | apply below_alloc | apply pw_below_drewN | apply below_drew1 | refine below_set ?_ GE102.out) | exact HB.out)⟩

end Go.Proofs.Ytcnpekpgghppnaa.Q

namespace Go.Proofs.Ytcnpekpgghppnaa.Q
open Go.RowKit Go.Proofs.YtcnpekpgghppnaaW.PrintWords Go.Proofs.YtcnpekpgghppnaaW.PrintLast Go.Proofs.YtcnpekpgghppnaaW.PrintMore
attribute [local go_sem] max2_int min2_int max_two min_two max_three min_three max_four min_four   -- for this text's walks alone
set_option linter.unusedVariables false
set_option linter.unusedSimpArgs false

/-! ### waveletref02_Valid: function 24 -/
def waveletref02_Valid.f (a0_0 : Int) (a0_1 : Int) (a0_2 : Int) (a0_3 : Int) (l0_4 : List Int) : Option (Bool) := (waveletref01_Area.f a0_0 a0_1 a0_2 a0_3).bind fun t105 => ((waveletref01_Valid.f a0_0 a0_1 a0_2 a0_3).bind fun t106 => (if t106 = true then (if t105 ≤ 1048576 then (some ((l0_4.length : Int) == t105)) else (some false)) else (some false)))
set_option maxHeartbeats 8000000 in
set_option maxRecDepth 100000 in
theorem waveletref02_Valid.calls (a0_0 : Int) (a0_1 : Int) (a0_2 : Int) (a0_3 : Int) (A0_4 : Option Addr) (c0_4 : Nat) (l0_4 : List Int) (r : Bool) (w : World) (hr0_4 : Kd.C (Kd.int .i64) w A0_4 l0_4.length l0_4) (hc0_4 : l0_4.length ≤ c0_4) (h : waveletref02_Valid.f a0_0 a0_1 a0_2 a0_3 l0_4 = some r) :
    Calls Try.prog 24 #[.agg #[.int .i64 a0_0, .int .i64 a0_1, .int .i64 a0_2, .int .i64 a0_3, .slice A0_4 l0_4.length c0_4]] w fun e w' => e = .returned (.bool r) ∧ Below w.heap.size w w' := by
  have hu26 := Try.underlying26
  have hu23 := Try.underlying23
  have HR0_4 := Aside0.mk hr0_4
  have HC0_4 := Aside0.mk hc0_4
  clear hr0_4 hc0_4
  have HB := Aside0.mk (Below.refl w.heap.size w)
  have H : ((waveletref01_Area.f a0_0 a0_1 a0_2 a0_3).bind fun t105 => ((waveletref01_Valid.f a0_0 a0_1 a0_2 a0_3).bind fun t106 => (if t106 = true then (if t105 ≤ 1048576 then (some ((l0_4.length : Int) == t105)) else (some false)) else (some false)))) = some r := h
  clear h
  replace H := Option.bind_eq_some_iff.mp H
  obtain ⟨t105, A20, H⟩ := H
  replace H : ((waveletref01_Valid.f a0_0 a0_1 a0_2 a0_3).bind fun t106 => (if t106 = true then (if t105 ≤ 1048576 then (some ((l0_4.length : Int) == t105)) else (some false)) else (some false))) = some r := H
  have A2 := Aside0.mk A20
  clear A20
  replace H := Option.bind_eq_some_iff.mp H
  obtain ⟨t106, A30, H⟩ := H
  replace H : (if t106 = true then (if t105 ≤ 1048576 then (some ((l0_4.length : Int) == t105)) else (some false)) else (some false)) = some r := H
  have A3 := Aside0.mk A30
  clear A30
  by_cases c4 : t106 = true
  · subst c4
    have H1 : (if t105 ≤ 1048576 then (some ((l0_4.length : Int) == t105)) else (some false)) = some r := by rw [if_pos rfl] at H; exact H
    clear H
    have H := H1
    clear H1
    by_cases c5 : t105 ≤ 1048576
    · rw [if_pos c5] at H
      have c5b0 : decide (t105 ≤ 1048576) = true := decide_eq_true c5
      clear c5
      obtain rfl := Option.some.inj H
      go_enter Try.func24, Try.ntmps24
      go_wp2_with (first | ((with_reducible refine gate_dst (N := 1) rfl ?_); (try (refine gate_guard (by rfl) ?_; dsimp only)); refine box_event ?hg (N := 1) ?hd (cs := #[.int .i64 a0_0, .int .i64 a0_1, .int .i64 a0_2, .int .i64 a0_3, .slice A0_4 l0_4.length c0_4]) (t := 26) ?hr ?_; (case hd => rfl); (case hg => rfl); (case hr => first | (go_simp; done) | (go_simp; rfl)); intro gb104 hg w6 hbox hb; have n0_ := Aside0.mk (below_step (by repeat (first | (with_reducible first | exact HB.out | apply below_alloc | apply pw_below_drewN | apply below_drew1) | exact HB.out)) hb); have n1_ := Aside0.mk (hbox); have n2_ := Aside0.mk ((by rw [hg]; exact (below_size (by repeat (first | (with_reducible first | exact HB.out | apply below_alloc | apply pw_below_drewN | apply below_drew1) | exact HB.out))) : w.heap.size ≤ gb104)); have n3_ := Aside0.mk ((by rw [hg]; exact (below_size (by repeat (first | (with_reducible first | exact HB.out | apply below_alloc | apply pw_below_drewN | apply below_drew1) | exact HB.out))) : w.heap.size ≤ gb104)); clear HB; have HB := n0_; have BK104 := n1_; have GW104 := n2_; have GE104 := n3_; clear n0_ n1_ n2_ n3_; clear hb hbox hg; have hcz7_0 : w6.cell? ⟨gb104, 0, none⟩ = some (.int .i64 a0_0) := (blk_cell BK104.out 0).trans rfl; have hcz7_1 : w6.cell? ⟨gb104, 1, none⟩ = some (.int .i64 a0_1) := (blk_cell BK104.out 1).trans rfl; have hcz7_2 : w6.cell? ⟨gb104, 2, none⟩ = some (.int .i64 a0_2) := (blk_cell BK104.out 2).trans rfl; have hcz7_3 : w6.cell? ⟨gb104, 3, none⟩ = some (.int .i64 a0_3) := (blk_cell BK104.out 3).trans rfl; have hcz7_4 : w6.cell? ⟨gb104, 4, none⟩ = some (.slice A0_4 l0_4.length c0_4) := (blk_cell BK104.out 4).trans rfl; have hfz7_0 := blk_frozen BK104.out 0; have hfz7_1 := blk_frozen BK104.out 1; have hfz7_2 := blk_frozen BK104.out 2; have hfz7_3 := blk_frozen BK104.out 3; have hfz7_4 := blk_frozen BK104.out 4) | ((with_reducible refine gate_callee (f := 55) rfl ?_); refine goesL_ (some 6) rfl rfl Try.func55 (by kernel_rfl) rfl #[.agg #[.int .i64 a0_0, .int .i64 a0_1, .int .i64 a0_2, .int .i64 a0_3]] rfl (by (try simp only [List.map_toArray, List.map_cons, List.map_nil]); first | done | rfl | (simp only [List.length_drop, List.length_take]; rfl)) ?_; (with_reducible refine (waveletref01_Area.calls a0_0 a0_1 a0_2 a0_3 t105 _ A2.out).mono ?_); rintro e w8 ⟨rfl, hb⟩; refine ⟨_, rfl, ?_⟩; have n0_ := Aside0.mk (blk_below (g := gb104) (o := .cells #[.int .i64 a0_0, .int .i64 a0_1, .int .i64 a0_2, .int .i64 a0_3, .slice A0_4 l0_4.length c0_4] 26 (0, 0)) (by (with_reducible repeat (first | refine blk_drewN ?_ _ | refine blk_drew ?_ | refine blk_alloc ?_ _)); exact BK104.out) hb); have n1_ := Aside0.mk (below_step (by repeat (first | (with_reducible first | exact HB.out | apply below_alloc | apply pw_below_drewN | apply below_drew1 | refine below_set ?_ GE104.out) | exact HB.out)) hb); clear BK104; clear HB; have BK104 := n0_; have HB := n1_; clear n0_ n1_; (try clear hb); (try clear hb2); (try clear hk); (try clear hi); have hcz9_0 : w8.cell? ⟨gb104, 0, none⟩ = some (.int .i64 a0_0) := (blk_cell BK104.out 0).trans rfl; have hcz9_1 : w8.cell? ⟨gb104, 1, none⟩ = some (.int .i64 a0_1) := (blk_cell BK104.out 1).trans rfl; have hcz9_2 : w8.cell? ⟨gb104, 2, none⟩ = some (.int .i64 a0_2) := (blk_cell BK104.out 2).trans rfl; have hcz9_3 : w8.cell? ⟨gb104, 3, none⟩ = some (.int .i64 a0_3) := (blk_cell BK104.out 3).trans rfl; have hcz9_4 : w8.cell? ⟨gb104, 4, none⟩ = some (.slice A0_4 l0_4.length c0_4) := (blk_cell BK104.out 4).trans rfl; have hfz9_0 := blk_frozen BK104.out 0; have hfz9_1 := blk_frozen BK104.out 1; have hfz9_2 := blk_frozen BK104.out 2; have hfz9_3 := blk_frozen BK104.out 3; have hfz9_4 := blk_frozen BK104.out 4) | ((with_reducible refine gate_callee (f := 8) rfl ?_); refine goesL_ (some 9) rfl rfl Try.func8 (by kernel_rfl) rfl #[.agg #[.int .i64 a0_0, .int .i64 a0_1, .int .i64 a0_2, .int .i64 a0_3]] rfl (by (try simp only [List.map_toArray, List.map_cons, List.map_nil]); first | done | rfl | (simp only [List.length_drop, List.length_take]; rfl)) ?_; (with_reducible refine (waveletref01_Valid.calls a0_0 a0_1 a0_2 a0_3 true _ A3.out).mono ?_); rintro e w10 ⟨rfl, hb⟩; refine ⟨_, rfl, ?_⟩; have n0_ := Aside0.mk (blk_below (g := gb104) (o := .cells #[.int .i64 a0_0, .int .i64 a0_1, .int .i64 a0_2, .int .i64 a0_3, .slice A0_4 l0_4.length c0_4] 26 (0, 0)) (by (with_reducible repeat (first | refine blk_drewN ?_ _ | refine blk_drew ?_ | refine blk_alloc ?_ _)); exact BK104.out) hb); have n1_ := Aside0.mk (below_step (by repeat (first | (with_reducible first | exact HB.out | apply below_alloc | apply pw_below_drewN | apply below_drew1 | refine below_set ?_ GE104.out) | exact HB.out)) hb); clear BK104; clear HB; have BK104 := n0_; have HB := n1_; clear n0_ n1_; (try clear hb); (try clear hb2); (try clear hk); (try clear hi); have hcz11_0 : w10.cell? ⟨gb104, 0, none⟩ = some (.int .i64 a0_0) := (blk_cell BK104.out 0).trans rfl; have hcz11_1 : w10.cell? ⟨gb104, 1, none⟩ = some (.int .i64 a0_1) := (blk_cell BK104.out 1).trans rfl; have hcz11_2 : w10.cell? ⟨gb104, 2, none⟩ = some (.int .i64 a0_2) := (blk_cell BK104.out 2).trans rfl; have hcz11_3 : w10.cell? ⟨gb104, 3, none⟩ = some (.int .i64 a0_3) := (blk_cell BK104.out 3).trans rfl; have hcz11_4 : w10.cell? ⟨gb104, 4, none⟩ = some (.slice A0_4 l0_4.length c0_4) := (blk_cell BK104.out 4).trans rfl; have hfz11_0 := blk_frozen BK104.out 0; have hfz11_1 := blk_frozen BK104.out 1; have hfz11_2 := blk_frozen BK104.out 2; have hfz11_3 := blk_frozen BK104.out 3; have hfz11_4 := blk_frozen BK104.out 4))
      go_ret
      exact ⟨by first | rfl | (simp [errW_none, errW_some] <;> rfl) | (simp [*, errW_none, errW_some] <;> rfl), by repeat (first | (with_reducible first | exact HB.out | apply below_alloc | apply pw_below_drewN | apply below_drew1 | refine below_set ?_ GE104.out) | exact HB.out)⟩
    · rw [if_neg c5] at H
      have c5b0 : decide (t105 ≤ 1048576) = false := decide_eq_false c5
      clear c5
      obtain rfl := Option.some.inj H
      go_enter Try.func24, Try.ntmps24
      go_wp2_with (first | ((with_reducible refine gate_dst (N := 1) rfl ?_); (try (refine gate_guard (by rfl) ?_; dsimp only)); refine box_event ?hg (N := 1) ?hd (cs := #[.int .i64 a0_0, .int .i64 a0_1, .int .i64 a0_2, .int .i64 a0_3, .slice A0_4 l0_4.length c0_4]) (t := 26) ?hr ?_; (case hd => rfl); (case hg => rfl); (case hr => first | (go_simp; done) | (go_simp; rfl)); intro gb104 hg w12 hbox hb; have n0_ := Aside0.mk (below_step (by repeat (first | (with_reducible first | exact HB.out | apply below_alloc | apply pw_below_drewN | apply below_drew1) | exact HB.out)) hb); have n1_ := Aside0.mk (hbox); have n2_ := Aside0.mk ((by rw [hg]; exact (below_size (by repeat (first | (with_reducible first | exact HB.out | apply below_alloc | apply pw_below_drewN | apply below_drew1) | exact HB.out))) : w.heap.size ≤ gb104)); have n3_ := Aside0.mk ((by rw [hg]; exact (below_size (by repeat (first | (with_reducible first | exact HB.out | apply below_alloc | apply pw_below_drewN | apply below_drew1) | exact HB.out))) : w.heap.size ≤ gb104)); clear HB; have HB := n0_; have BK104 := n1_; have GW104 := n2_; have GE104 := n3_; clear n0_ n1_ n2_ n3_; clear hb hbox hg; have hcz13_0 : w12.cell? ⟨gb104, 0, none⟩ = some (.int .i64 a0_0) := (blk_cell BK104.out 0).trans rfl; have hcz13_1 : w12.cell? ⟨gb104, 1, none⟩ = some (.int .i64 a0_1) := (blk_cell BK104.out 1).trans rfl; have hcz13_2 : w12.cell? ⟨gb104, 2, none⟩ = some (.int .i64 a0_2) := (blk_cell BK104.out 2).trans rfl; have hcz13_3 : w12.cell? ⟨gb104, 3, none⟩ = some (.int .i64 a0_3) := (blk_cell BK104.out 3).trans rfl; have hcz13_4 : w12.cell? ⟨gb104, 4, none⟩ = some (.slice A0_4 l0_4.length c0_4) := (blk_cell BK104.out 4).trans rfl; have hfz13_0 := blk_frozen BK104.out 0; have hfz13_1 := blk_frozen BK104.out 1; have hfz13_2 := blk_frozen BK104.out 2; have hfz13_3 := blk_frozen BK104.out 3; have hfz13_4 := blk_frozen BK104.out 4) | ((with_reducible refine gate_callee (f := 55) rfl ?_); refine goesL_ (some 6) rfl rfl Try.func55 (by kernel_rfl) rfl #[.agg #[.int .i64 a0_0, .int .i64 a0_1, .int .i64 a0_2, .int .i64 a0_3]] rfl (by (try simp only [List.map_toArray, List.map_cons, List.map_nil]); first | done | rfl | (simp only [List.length_drop, List.length_take]; rfl)) ?_; (with_reducible refine (waveletref01_Area.calls a0_0 a0_1 a0_2 a0_3 t105 _ A2.out).mono ?_); rintro e w14 ⟨rfl, hb⟩; refine ⟨_, rfl, ?_⟩; have n0_ := Aside0.mk (blk_below (g := gb104) (o := .cells #[.int .i64 a0_0, .int .i64 a0_1, .int .i64 a0_2, .int .i64 a0_3, .slice A0_4 l0_4.length c0_4] 26 (0, 0)) (by (with_reducible repeat (first | refine blk_drewN ?_ _ | refine blk_drew ?_ | refine blk_alloc ?_ _)); exact BK104.out) hb); have n1_ := Aside0.mk (below_step (by repeat (first | (with_reducible first | exact HB.out | apply below_alloc | apply pw_below_drewN | apply below_drew1 | refine below_set ?_ GE104.out) | exact HB.out)) hb); clear BK104; clear HB; have BK104 := n0_; have HB := n1_; clear n0_ n1_; (try clear hb); (try clear hb2); (try clear hk); (try clear hi); have hcz15_0 : w14.cell? ⟨gb104, 0, none⟩ = some (.int .i64 a0_0) := (blk_cell BK104.out 0).trans rfl; have hcz15_1 : w14.cell? ⟨gb104, 1, none⟩ = some (.int .i64 a0_1) := (blk_cell BK104.out 1).trans rfl; have hcz15_2 : w14.cell? ⟨gb104, 2, none⟩ = some (.int .i64 a0_2) := (blk_cell BK104.out 2).trans rfl; have hcz15_3 : w14.cell? ⟨gb104, 3, none⟩ = some (.int .i64 a0_3) := (blk_cell BK104.out 3).trans rfl; have hcz15_4 : w14.cell? ⟨gb104, 4, none⟩ = some (.slice A0_4 l0_4.length c0_4) := (blk_cell BK104.out 4).trans rfl; have hfz15_0 := blk_frozen BK104.out 0; have hfz15_1 := blk_frozen BK104.out 1; have hfz15_2 := blk_frozen BK104.out 2; have hfz15_3 := blk_frozen BK104.out 3; have hfz15_4 := blk_frozen BK104.out 4) | ((with_reducible refine gate_callee (f := 8) rfl ?_); refine goesL_ (some 9) rfl rfl Try.func8 (by kernel_rfl) rfl #[.agg #[.int .i64 a0_0, .int .i64 a0_1, .int .i64 a0_2, .int .i64 a0_3]] rfl (by (try simp only [List.map_toArray, List.map_cons, List.map_nil]); first | done | rfl | (simp only [List.length_drop, List.length_take]; rfl)) ?_; (with_reducible refine (waveletref01_Valid.calls a0_0 a0_1 a0_2 a0_3 true _ A3.out).mono ?_); rintro e w16 ⟨rfl, hb⟩; refine ⟨_, rfl, ?_⟩; have n0_ := Aside0.mk (blk_below (g := gb104) (o := .cells #[.int .i64 a0_0, .int .i64 a0_1, .int .i64 a0_2, .int .i64 a0_3, .slice A0_4 l0_4.length c0_4] 26 (0, 0)) (by (with_reducible repeat (first | refine blk_drewN ?_ _ | refine blk_drew ?_ | refine blk_alloc ?_ _)); exact BK104.out) hb); have n1_ := Aside0.mk (below_step (by repeat (first | (with_reducible first | exact HB.out | apply below_alloc | apply pw_below_drewN | apply below_drew1 | refine below_set ?_ GE104.out) | exact HB.out)) hb); clear BK104; clear HB; have BK104 := n0_; have HB := n1_; clear n0_ n1_; (try clear hb); (try clear hb2); (try clear hk); (try clear hi)))
      go_ret
      exact ⟨by first | rfl | (simp [errW_none, errW_some] <;> rfl) | (simp [*, errW_none, errW_some] <;> rfl), by repeat (first | (with_reducible first | exact HB.out | apply below_alloc | apply pw_below_drewN | apply below_drew1 | refine below_set ?_ GE104.out) | exact HB.out)⟩
  · replace c4 := Bool.eq_false_iff.mpr c4
    subst c4
    have H1 : (some false) = some r := by rw [if_neg (show ¬ (false = true) by decide)] at H; exact H
    clear H
    have H := H1
    clear H1
    obtain rfl := Option.some.inj H
    go_enter Try.func24, Try.ntmps24
    go_wp2_with (first | ((with_reducible refine gate_dst (N := 1) rfl ?_); (try (refine gate_guard (by rfl) ?_; dsimp only)); refine box_event ?hg (N := 1) ?hd (cs := #[.int .i64 a0_0, .int .i64 a0_1, .int .i64 a0_2, .int .i64 a0_3, .slice A0_4 l0_4.length c0_4]) (t := 26) ?hr ?_; (case hd => rfl); (case hg => rfl); (case hr => first | (go_simp; done) | (go_simp; rfl)); intro gb104 hg w17 hbox hb; have n0_ := Aside0.mk (below_step (by repeat (first | (with_reducible first | exact HB.out | apply below_alloc | apply pw_below_drewN | apply below_drew1) | exact HB.out)) hb); have n1_ := Aside0.mk (hbox); have n2_ := Aside0.mk ((by rw [hg]; exact (below_size (by repeat (first | (with_reducible first | exact HB.out | apply below_alloc | apply pw_below_drewN | apply below_drew1) | exact HB.out))) : w.heap.size ≤ gb104)); have n3_ := Aside0.mk ((by rw [hg]; exact (below_size (by repeat (first | (with_reducible first | exact HB.out | apply below_alloc | apply pw_below_drewN | apply below_drew1) | exact HB.out))) : w.heap.size ≤ gb104)); clear HB; have HB := n0_; have BK104 := n1_; have GW104 := n2_; have GE104 := n3_; clear n0_ n1_ n2_ n3_; clear hb hbox hg; have hcz18_0 : w17.cell? ⟨gb104, 0, none⟩ = some (.int .i64 a0_0) := (blk_cell BK104.out 0).trans rfl; have hcz18_1 : w17.cell? ⟨gb104, 1, none⟩ = some (.int .i64 a0_1) := (blk_cell BK104.out 1).trans rfl; have hcz18_2 : w17.cell? ⟨gb104, 2, none⟩ = some (.int .i64 a0_2) := (blk_cell BK104.out 2).trans rfl; have hcz18_3 : w17.cell? ⟨gb104, 3, none⟩ = some (.int .i64 a0_3) := (blk_cell BK104.out 3).trans rfl; have hcz18_4 : w17.cell? ⟨gb104, 4, none⟩ = some (.slice A0_4 l0_4.length c0_4) := (blk_cell BK104.out 4).trans rfl; have hfz18_0 := blk_frozen BK104.out 0; have hfz18_1 := blk_frozen BK104.out 1; have hfz18_2 := blk_frozen BK104.out 2; have hfz18_3 := blk_frozen BK104.out 3; have hfz18_4 := blk_frozen BK104.out 4) | ((with_reducible refine gate_callee (f := 55) rfl ?_); refine goesL_ (some 6) rfl rfl Try.func55 (by kernel_rfl) rfl #[.agg #[.int .i64 a0_0, .int .i64 a0_1, .int .i64 a0_2, .int .i64 a0_3]] rfl (by (try simp only [List.map_toArray, List.map_cons, List.map_nil]); first | done | rfl | (simp only [List.length_drop, List.length_take]; rfl)) ?_; (with_reducible refine (waveletref01_Area.calls a0_0 a0_1 a0_2 a0_3 t105 _ A2.out).mono ?_); rintro e w19 ⟨rfl, hb⟩; refine ⟨_, rfl, ?_⟩; have n0_ := Aside0.mk (blk_below (g := gb104) (o := .cells #[.int .i64 a0_0, .int .i64 a0_1, .int .i64 a0_2, .int .i64 a0_3, .slice A0_4 l0_4.length c0_4] 26 (0, 0)) (by (with_reducible repeat (first | refine blk_drewN ?_ _ | refine blk_drew ?_ | refine blk_alloc ?_ _)); exact BK104.out) hb); have n1_ := Aside0.mk (below_step (by repeat (first | (with_reducible first | exact HB.out | apply below_alloc | apply pw_below_drewN | apply below_drew1 | refine below_set ?_ GE104.out) | exact HB.out)) hb); clear BK104; clear HB; have BK104 := n0_; have HB := n1_; clear n0_ n1_; (try clear hb); (try clear hb2); (try clear hk); (try clear hi); have hcz20_0 : w19.cell? ⟨gb104, 0, none⟩ = some (.int .i64 a0_0) := (blk_cell BK104.out 0).trans rfl; have hcz20_1 : w19.cell? ⟨gb104, 1, none⟩ = some (.int .i64 a0_1) := (blk_cell BK104.out 1).trans rfl; have hcz20_2 : w19.cell? ⟨gb104, 2, none⟩ = some (.int .i64 a0_2) := (blk_cell BK104.out 2).trans rfl; have hcz20_3 : w19.cell? ⟨gb104, 3, none⟩ = some (.int .i64 a0_3) := (blk_cell BK104.out 3).trans rfl; have hcz20_4 : w19.cell? ⟨gb104, 4, none⟩ = some (.slice A0_4 l0_4.length c0_4) := (blk_cell BK104.out 4).trans rfl; have hfz20_0 := blk_frozen BK104.out 0; have hfz20_1 := blk_frozen BK104.out 1; have hfz20_2 := blk_frozen BK104.out 2; have hfz20_3 := blk_frozen BK104.out 3; have hfz20_4 := blk_frozen BK104.out 4) | ((with_reducible refine gate_callee (f := 8) rfl ?_); refine goesL_ (some 9) rfl rfl Try.func8 (by kernel_rfl) rfl #[.agg #[.int .i64 a0_0, .int .i64 a0_1, .int .i64 a0_2, .int .i64 a0_3]] rfl (by (try simp only [List.map_toArray, List.map_cons, List.map_nil]); first | done | rfl | (simp only [List.length_drop, List.length_take]; rfl)) ?_; (with_reducible refine (waveletref01_Valid.calls a0_0 a0_1 a0_2 a0_3 false _ A3.out).mono ?_); rintro e w21 ⟨rfl, hb⟩; refine ⟨_, rfl, ?_⟩; have n0_ := Aside0.mk (blk_below (g := gb104) (o := .cells #[.int .i64 a0_0, .int .i64 a0_1, .int .i64 a0_2, .int .i64 a0_3, .slice A0_4 l0_4.length c0_4] 26 (0, 0)) (by (with_reducible repeat (first | refine blk_drewN ?_ _ | refine blk_drew ?_ | refine blk_alloc ?_ _)); exact BK104.out) hb); have n1_ := Aside0.mk (below_step (by repeat (first | (with_reducible first | exact HB.out | apply below_alloc | apply pw_below_drewN | apply below_drew1 | refine below_set ?_ GE104.out) | exact HB.out)) hb); clear BK104; clear HB; have BK104 := n0_; have HB := n1_; clear n0_ n1_; (try clear hb); (try clear hb2); (try clear hk); (try clear hi)))
    go_ret
    exact ⟨by first | rfl | (simp [errW_none, errW_some] <;> rfl) | (simp [*, errW_none, errW_some] <;> rfl), by repeat (first | (with_reducible first | exact HB.out | apply below_alloc | apply pw_below_drewN | apply below_drew1 | refine below_set ?_ GE104.out) | exact HB.out)⟩

end Go.Proofs.Ytcnpekpgghppnaa.Q

namespace Go.Proofs.Ytcnpekpgghppnaa.Q
open Go.RowKit Go.Proofs.YtcnpekpgghppnaaW.PrintWords Go.Proofs.YtcnpekpgghppnaaW.PrintLast Go.Proofs.YtcnpekpgghppnaaW.PrintMore
attribute [local go_sem] max2_int min2_int max_two min_two max_three min_three max_four min_four   -- for this text's walks alone
set_option linter.unusedVariables false
set_option linter.unusedSimpArgs false

/-! ### wavelettop_smallPlane: function 6 -/
mutual
def wavelettop_smallPlane.j0 : Nat → Bool → Int → Int → Int → Int → List Int → Option (Bool)
  | 0, _, _, _, _, _, _ => none
  | k + 1, x13, x108000, x108001, x108002, x108003, x108004 => if x13 = true then (some false) else (wavelettop_smallPlane.l0 k x108004 (x108004.length : Int) 0)
def wavelettop_smallPlane.l0 : Nat → List Int → Int → Int → Option (Bool)
  | 0, _, _, _ => none
  | k + 1, x15, x16, x17 => if x17 < x16 then (if 0 ≤ x17 then (if x17 < (x15.length : Int) then (if (rd x15 x17) < (-65536) then (some false) else (if (rd x15 x17) > 65536 then (some false) else (wavelettop_smallPlane.l0 k x15 x16 (wrap64 (x17 + 1))))) else (none)) else (none)) else (some true)
end
def wavelettop_smallPlane.f (k : Nat) (a0_0 : Int) (a0_1 : Int) (a0_2 : Int) (a0_3 : Int) (l0_4 : List Int) : Option (Bool) := (waveletref02_Valid.f a0_0 a0_1 a0_2 a0_3 l0_4).bind fun t108 => (if t108 = true then (wavelettop_smallPlane.j0 k (decide ((l0_4.length : Int) > 900)) a0_0 a0_1 a0_2 a0_3 l0_4) else (wavelettop_smallPlane.j0 k true a0_0 a0_1 a0_2 a0_3 l0_4))
theorem wavelettop_smallPlane.mono_l : ∀ k, (∀ y0 y1 y2 y3 y4 y5, LeO (wavelettop_smallPlane.j0 k y0 y1 y2 y3 y4 y5) (wavelettop_smallPlane.j0 (k + 1) y0 y1 y2 y3 y4 y5)) ∧ (∀ y0 y1 y2, LeO (wavelettop_smallPlane.l0 k y0 y1 y2) (wavelettop_smallPlane.l0 (k + 1) y0 y1 y2))
  | 0 => ⟨fun _ _ _ _ _ _ r h => by simp [wavelettop_smallPlane.j0] at h, fun _ _ _ r h => by simp [wavelettop_smallPlane.l0] at h⟩
  | k + 1 => by
    obtain ⟨ih0, ih1⟩ := wavelettop_smallPlane.mono_l k
    refine ⟨?_, ?_⟩
    · intro y0 y1 y2 y3 y4 y5
      unfold wavelettop_smallPlane.j0
      repeat' first
      | (with_reducible exact ih0 _ _ _ _ _ _)
      | (with_reducible exact ih1 _ _ _)
      | (with_reducible exact LeO.refl _)
      | (with_reducible exact LeO.none _)
      | (with_reducible refine LeO.ite ?_ ?_)
      | (with_reducible refine LeO.bind ?_ (fun _ => ?_))
      | exact ih0 _ _ _ _ _ _
      | exact ih1 _ _ _
      | exact LeO.none _
      | refine LeO.ite ?_ ?_
      | refine LeO.bind ?_ (fun _ => ?_)
    · intro y0 y1 y2
      unfold wavelettop_smallPlane.l0
      repeat' first
      | (with_reducible exact ih0 _ _ _ _ _ _)
      | (with_reducible exact ih1 _ _ _)
      | (with_reducible exact LeO.refl _)
      | (with_reducible exact LeO.none _)
      | (with_reducible refine LeO.ite ?_ ?_)
      | (with_reducible refine LeO.bind ?_ (fun _ => ?_))
      | exact ih0 _ _ _ _ _ _
      | exact ih1 _ _ _
      | exact LeO.none _
      | refine LeO.ite ?_ ?_
      | refine LeO.bind ?_ (fun _ => ?_)
theorem wavelettop_smallPlane.mono : ∀ a0 a1 a2 a3 a4 k, LeO (wavelettop_smallPlane.f k a0 a1 a2 a3 a4) (wavelettop_smallPlane.f (k + 1) a0 a1 a2 a3 a4) := by
  intro a0 a1 a2 a3 a4 k
  obtain ⟨ih0, ih1⟩ := wavelettop_smallPlane.mono_l k
  unfold wavelettop_smallPlane.f
  repeat' first
      | (with_reducible exact ih0 _ _ _ _ _ _)
      | (with_reducible exact ih1 _ _ _)
      | (with_reducible exact LeO.refl _)
      | (with_reducible exact LeO.none _)
      | (with_reducible refine LeO.ite ?_ ?_)
      | (with_reducible refine LeO.bind ?_ (fun _ => ?_))
      | exact ih0 _ _ _ _ _ _
      | exact ih1 _ _ _
      | exact LeO.none _
      | refine LeO.ite ?_ ?_
      | refine LeO.bind ?_ (fun _ => ?_)
set_option maxHeartbeats 8000000 in
set_option maxRecDepth 100000 in
theorem wavelettop_smallPlane.calls (k : Nat) (a0_0 : Int) (a0_1 : Int) (a0_2 : Int) (a0_3 : Int) (A0_4 : Option Addr) (c0_4 : Nat) (l0_4 : List Int) (r : Bool) (w : World) (hr0_4 : Kd.C (Kd.int .i64) w A0_4 l0_4.length l0_4) (hc0_4 : l0_4.length ≤ c0_4) (h : wavelettop_smallPlane.f k a0_0 a0_1 a0_2 a0_3 l0_4 = some r) :
    Calls Try.prog 6 #[.agg #[.int .i64 a0_0, .int .i64 a0_1, .int .i64 a0_2, .int .i64 a0_3, .slice A0_4 l0_4.length c0_4]] w fun e w' => e = .returned (.bool r) ∧ Below w.heap.size w w' := by
  have hu26 := Try.underlying26
  have HR0_4 := Aside0.mk hr0_4
  have HC0_4 := Aside0.mk hc0_4
  clear hr0_4 hc0_4
  have HB := Aside0.mk (Below.refl w.heap.size w)
  have H : ((waveletref02_Valid.f a0_0 a0_1 a0_2 a0_3 l0_4).bind fun t108 => (if t108 = true then (wavelettop_smallPlane.j0 k (decide ((l0_4.length : Int) > 900)) a0_0 a0_1 a0_2 a0_3 l0_4) else (wavelettop_smallPlane.j0 k true a0_0 a0_1 a0_2 a0_3 l0_4))) = some r := h
  clear h
  have HC2 := Aside0.mk H
  clear H
  go_enter Try.func6, Try.ntmps6
  go_upto_region 1 with (first | ((with_reducible refine gate_dst (N := 1) rfl ?_); (try (refine gate_guard (by rfl) ?_; dsimp only)); refine box_event ?hg (N := 1) ?hd (cs := #[.int .i64 a0_0, .int .i64 a0_1, .int .i64 a0_2, .int .i64 a0_3, .slice A0_4 l0_4.length c0_4]) (t := 26) ?hr ?_; (case hd => rfl); (case hg => rfl); (case hr => first | (go_simp; done) | (go_simp; rfl)); intro gb107 hg w3 hbox hb; have n0_ := Aside0.mk (below_step (by repeat (first | (with_reducible first | exact HB.out | apply below_alloc | apply pw_below_drewN | apply below_drew1) | exact HB.out)) hb); have n1_ := Aside0.mk (hbox); have n2_ := Aside0.mk ((by rw [hg]; exact (below_size (by repeat (first | (with_reducible first | exact HB.out | apply below_alloc | apply pw_below_drewN | apply below_drew1) | exact HB.out))) : w.heap.size ≤ gb107)); have n3_ := Aside0.mk ((by rw [hg]; exact (below_size (by repeat (first | (with_reducible first | exact HB.out | apply below_alloc | apply pw_below_drewN | apply below_drew1) | exact HB.out))) : w.heap.size ≤ gb107)); clear HB; have HB := n0_; have BK107 := n1_; have GW107 := n2_; have GE107 := n3_; clear n0_ n1_ n2_ n3_; clear hb hbox hg))
  (try simp only [Act.put, List.setIfInBounds_toArray, List.set_cons_zero, List.set_cons_succ])
  go_cut [13] (fun v13 wc => ∃ (kq : Nat) (x13_1 : Bool), v13 = .bool x13_1 ∧ Aside0 (wavelettop_smallPlane.j0 kq x13_1 a0_0 a0_1 a0_2 a0_3 l0_4 = some r) ∧ Aside0 (kq ≤ k) ∧ Aside0 (wc.heap[gb107]? = some (.cells #[.int .i64 a0_0, .int .i64 a0_1, .int .i64 a0_2, .int .i64 a0_3, (.slice A0_4 l0_4.length c0_4)] 26 (0, 0))) ∧ Aside0 (Below w.heap.size w wc))
  case first =>
    have H := HC2.out
    clear HC2
    replace H := Option.bind_eq_some_iff.mp H
    obtain ⟨t108, A40, H⟩ := H
    replace H : (if t108 = true then (wavelettop_smallPlane.j0 k (decide ((l0_4.length : Int) > 900)) a0_0 a0_1 a0_2 a0_3 l0_4) else (wavelettop_smallPlane.j0 k true a0_0 a0_1 a0_2 a0_3 l0_4)) = some r := H
    have A4 := Aside0.mk A40
    clear A40
    by_cases c5 : t108 = true
    · subst c5
      have H1 : (wavelettop_smallPlane.j0 k (decide ((l0_4.length : Int) > 900)) a0_0 a0_1 a0_2 a0_3 l0_4) = some r := by rw [if_pos rfl] at H; exact H
      clear H
      have H := H1
      clear H1
      have H' := Aside0.mk H
      clear H
      have hcz6_0 : w3.cell? ⟨gb107, 0, none⟩ = some (.int .i64 a0_0) := (blk_cell BK107.out 0).trans rfl
      have hcz6_1 : w3.cell? ⟨gb107, 1, none⟩ = some (.int .i64 a0_1) := (blk_cell BK107.out 1).trans rfl
      have hcz6_2 : w3.cell? ⟨gb107, 2, none⟩ = some (.int .i64 a0_2) := (blk_cell BK107.out 2).trans rfl
      have hcz6_3 : w3.cell? ⟨gb107, 3, none⟩ = some (.int .i64 a0_3) := (blk_cell BK107.out 3).trans rfl
      have hcz6_4 : w3.cell? ⟨gb107, 4, none⟩ = some (.slice A0_4 l0_4.length c0_4) := (blk_cell BK107.out 4).trans rfl
      have hfz6_0 := blk_frozen BK107.out 0
      have hfz6_1 := blk_frozen BK107.out 1
      have hfz6_2 := blk_frozen BK107.out 2
      have hfz6_3 := blk_frozen BK107.out 3
      have hfz6_4 := blk_frozen BK107.out 4
      go_wp2_with (first | ((with_reducible refine gate_callee (f := 24) rfl ?_); refine goesL_ (some 6) rfl rfl Try.func24 (by kernel_rfl) rfl #[.agg #[.int .i64 a0_0, .int .i64 a0_1, .int .i64 a0_2, .int .i64 a0_3, .slice A0_4 l0_4.length c0_4]] rfl (by (try simp only [List.map_toArray, List.map_cons, List.map_nil]); first | done | rfl | (simp only [List.length_drop, List.length_take]; rfl)) ?_; (with_reducible refine (waveletref02_Valid.calls a0_0 a0_1 a0_2 a0_3 _ _ l0_4 true _ ?side1 ?side2 A4.out).mono ?_); (case side1 => repeat (first | exact (Kd.C_below HR0_4.out HB.out) | (with_reducible refine Kd.C_alloc ?_ _) | (with_reducible refine Kd.C_drewN ?_ _) | (with_reducible refine Kd.C_drew ?_))); (case side2 => exact HC0_4.out); rintro e w7 ⟨rfl, hb⟩; refine ⟨_, rfl, ?_⟩; have n0_ := Aside0.mk (blk_below (g := gb107) (o := .cells #[.int .i64 a0_0, .int .i64 a0_1, .int .i64 a0_2, .int .i64 a0_3, .slice A0_4 l0_4.length c0_4] 26 (0, 0)) (by (with_reducible repeat (first | refine blk_drewN ?_ _ | refine blk_drew ?_ | refine blk_alloc ?_ _)); exact BK107.out) hb); have n1_ := Aside0.mk (below_step (by repeat (first | (with_reducible first | exact HB.out | apply below_alloc | apply pw_below_drewN | apply below_drew1 | refine below_set ?_ GE107.out) | exact HB.out)) hb); clear BK107; clear HB; have BK107 := n0_; have HB := n1_; clear n0_ n1_; (try clear hb); (try clear hb2); (try clear hk); (try clear hi); have hcz8_0 : w7.cell? ⟨gb107, 0, none⟩ = some (.int .i64 a0_0) := (blk_cell BK107.out 0).trans rfl; have hcz8_1 : w7.cell? ⟨gb107, 1, none⟩ = some (.int .i64 a0_1) := (blk_cell BK107.out 1).trans rfl; have hcz8_2 : w7.cell? ⟨gb107, 2, none⟩ = some (.int .i64 a0_2) := (blk_cell BK107.out 2).trans rfl; have hcz8_3 : w7.cell? ⟨gb107, 3, none⟩ = some (.int .i64 a0_3) := (blk_cell BK107.out 3).trans rfl; have hcz8_4 : w7.cell? ⟨gb107, 4, none⟩ = some (.slice A0_4 l0_4.length c0_4) := (blk_cell BK107.out 4).trans rfl; have hfz8_0 := blk_frozen BK107.out 0; have hfz8_1 := blk_frozen BK107.out 1; have hfz8_2 := blk_frozen BK107.out 2; have hfz8_3 := blk_frozen BK107.out 3; have hfz8_4 := blk_frozen BK107.out 4))
      go_meet
      case rel => exact ⟨_, (decide ((l0_4.length : Int) > 900)), (by first | rfl | (simp; done) | (simp [*]; done)), H', ⟨by first | omega | exact Nat.le_refl _⟩, ⟨by (with_reducible repeat (first | refine blk_drewN ?_ _ | refine blk_drew ?_ | refine blk_alloc ?_ _)); exact BK107.out⟩, ⟨by repeat (first | (with_reducible first | exact HB.out | apply below_alloc | apply pw_below_drewN | apply below_drew1 | refine below_set ?_ GE107.out) | exact HB.out)⟩⟩
    · replace c5 := Bool.eq_false_iff.mpr c5
      subst c5
      have H1 : (wavelettop_smallPlane.j0 k true a0_0 a0_1 a0_2 a0_3 l0_4) = some r := by rw [if_neg (show ¬ (false = true) by decide)] at H; exact H
      clear H
      have H := H1
      clear H1
      have H' := Aside0.mk H
      clear H
      have hcz9_0 : w3.cell? ⟨gb107, 0, none⟩ = some (.int .i64 a0_0) := (blk_cell BK107.out 0).trans rfl
      have hcz9_1 : w3.cell? ⟨gb107, 1, none⟩ = some (.int .i64 a0_1) := (blk_cell BK107.out 1).trans rfl
      have hcz9_2 : w3.cell? ⟨gb107, 2, none⟩ = some (.int .i64 a0_2) := (blk_cell BK107.out 2).trans rfl
      have hcz9_3 : w3.cell? ⟨gb107, 3, none⟩ = some (.int .i64 a0_3) := (blk_cell BK107.out 3).trans rfl
      have hcz9_4 : w3.cell? ⟨gb107, 4, none⟩ = some (.slice A0_4 l0_4.length c0_4) := (blk_cell BK107.out 4).trans rfl
      have hfz9_0 := blk_frozen BK107.out 0
      have hfz9_1 := blk_frozen BK107.out 1
      have hfz9_2 := blk_frozen BK107.out 2
      have hfz9_3 := blk_frozen BK107.out 3
      have hfz9_4 := blk_frozen BK107.out 4
      go_wp2_with (first | ((with_reducible refine gate_callee (f := 24) rfl ?_); refine goesL_ (some 6) rfl rfl Try.func24 (by kernel_rfl) rfl #[.agg #[.int .i64 a0_0, .int .i64 a0_1, .int .i64 a0_2, .int .i64 a0_3, .slice A0_4 l0_4.length c0_4]] rfl (by (try simp only [List.map_toArray, List.map_cons, List.map_nil]); first | done | rfl | (simp only [List.length_drop, List.length_take]; rfl)) ?_; (with_reducible refine (waveletref02_Valid.calls a0_0 a0_1 a0_2 a0_3 _ _ l0_4 false _ ?side1 ?side2 A4.out).mono ?_); (case side1 => repeat (first | exact (Kd.C_below HR0_4.out HB.out) | (with_reducible refine Kd.C_alloc ?_ _) | (with_reducible refine Kd.C_drewN ?_ _) | (with_reducible refine Kd.C_drew ?_))); (case side2 => exact HC0_4.out); rintro e w10 ⟨rfl, hb⟩; refine ⟨_, rfl, ?_⟩; have n0_ := Aside0.mk (blk_below (g := gb107) (o := .cells #[.int .i64 a0_0, .int .i64 a0_1, .int .i64 a0_2, .int .i64 a0_3, .slice A0_4 l0_4.length c0_4] 26 (0, 0)) (by (with_reducible repeat (first | refine blk_drewN ?_ _ | refine blk_drew ?_ | refine blk_alloc ?_ _)); exact BK107.out) hb); have n1_ := Aside0.mk (below_step (by repeat (first | (with_reducible first | exact HB.out | apply below_alloc | apply pw_below_drewN | apply below_drew1 | refine below_set ?_ GE107.out) | exact HB.out)) hb); clear BK107; clear HB; have BK107 := n0_; have HB := n1_; clear n0_ n1_; (try clear hb); (try clear hb2); (try clear hk); (try clear hi)))
      go_meet
      case rel => exact ⟨_, (true), (by first | rfl | (simp; done) | (simp [*]; done)), H', ⟨by first | omega | exact Nat.le_refl _⟩, ⟨by (with_reducible repeat (first | refine blk_drewN ?_ _ | refine blk_drew ?_ | refine blk_alloc ?_ _)); exact BK107.out⟩, ⟨by repeat (first | (with_reducible first | exact HB.out | apply below_alloc | apply pw_below_drewN | apply below_drew1 | refine below_set ?_ GE107.out) | exact HB.out)⟩⟩
  case rest =>
    clear HC2
    try clear c2
    try clear p2
    try clear c5
    try clear c6
    try clear hcz6_0
    try clear hcz6_1
    try clear hcz6_2
    try clear hcz6_3
    try clear hcz6_4
    try clear hcz8_0
    try clear hcz8_1
    try clear hcz8_2
    try clear hcz8_3
    try clear hcz8_4
    try clear hcz9_0
    try clear hcz9_1
    try clear hcz9_2
    try clear hcz9_3
    try clear hcz9_4
    try clear hfz6_0
    try clear hfz6_1
    try clear hfz6_2
    try clear hfz6_3
    try clear hfz6_4
    try clear hfz8_0
    try clear hfz8_1
    try clear hfz8_2
    try clear hfz8_3
    try clear hfz8_4
    try clear hfz9_0
    try clear hfz9_1
    try clear hfz9_2
    try clear hfz9_3
    try clear hfz9_4
    obtain ⟨kq, x13_1, rfl, HA, HJ1, BK107, HB⟩ := hcut
    cases kq with
    | zero => exact absurd HA.out (by simp [wavelettop_smallPlane.j0])
    | succ kj1 =>
      have H := HA.out
      clear HA
      simp only [wavelettop_smallPlane.j0] at H
      by_cases c11 : x13_1 = true
      · subst c11
        have H1 : (some false) = some r := by rw [if_pos rfl] at H; exact H
        clear H
        have H := H1
        clear H1
        obtain rfl := Option.some.inj H
        go_wp2
        go_ret
        exact ⟨by first | rfl | (simp [errW_none, errW_some] <;> rfl) | (simp [*, errW_none, errW_some] <;> rfl), by repeat (first | (with_reducible first | exact HB.out | apply below_alloc | apply pw_below_drewN | apply below_drew1 | refine below_set ?_ GE107.out) | exact HB.out)⟩
      · replace c11 := Bool.eq_false_iff.mpr c11
        subst c11
        have H1 : (wavelettop_smallPlane.l0 kj1 l0_4 (l0_4.length : Int) 0) = some r := by rw [if_neg (show ¬ (false = true) by decide)] at H; exact H
        clear H
        have H := H1
        clear H1
        have H' := Aside0.mk H
        clear H
        have hcz12_0 : wc.cell? ⟨gb107, 0, none⟩ = some (.int .i64 a0_0) := (blk_cell BK107.out 0).trans rfl
        have hcz12_1 : wc.cell? ⟨gb107, 1, none⟩ = some (.int .i64 a0_1) := (blk_cell BK107.out 1).trans rfl
        have hcz12_2 : wc.cell? ⟨gb107, 2, none⟩ = some (.int .i64 a0_2) := (blk_cell BK107.out 2).trans rfl
        have hcz12_3 : wc.cell? ⟨gb107, 3, none⟩ = some (.int .i64 a0_3) := (blk_cell BK107.out 3).trans rfl
        have hcz12_4 : wc.cell? ⟨gb107, 4, none⟩ = some (.slice A0_4 l0_4.length c0_4) := (blk_cell BK107.out 4).trans rfl
        have hfz12_0 := blk_frozen BK107.out 0
        have hfz12_1 := blk_frozen BK107.out 1
        have hfz12_2 := blk_frozen BK107.out 2
        have hfz12_3 := blk_frozen BK107.out 3
        have hfz12_4 := blk_frozen BK107.out 4
        go_wp2
        go_loopg [17] kj1 (fun kq v17 w' => ∃ (x17_2 : Int), v17 = .int .i64 x17_2 ∧ Aside0 (wavelettop_smallPlane.l0 kq l0_4 (l0_4.length : Int) x17_2 = some r) ∧ Aside0 (kq ≤ kj1) ∧ Aside0 (w'.heap[gb107]? = some (.cells #[.int .i64 a0_0, .int .i64 a0_1, .int .i64 a0_2, .int .i64 a0_3, (.slice A0_4 l0_4.length c0_4)] 26 (0, 0))) ∧ Aside0 (Below w.heap.size w w'))
        case atStart => exact ⟨(0), (by first | rfl | (simp; done) | (simp [*]; done)), H', ⟨Nat.le_refl _⟩, ⟨by (with_reducible repeat (first | refine blk_drewN ?_ _ | refine blk_drew ?_ | refine blk_alloc ?_ _)); exact BK107.out⟩, ⟨by repeat (first | (with_reducible first | exact HB.out | apply below_alloc | apply pw_below_drewN | apply below_drew1 | refine below_set ?_ GE107.out) | exact HB.out)⟩⟩
        case round =>
          clear H'
          try clear c1
          try clear c2
          try clear p2
          try clear c5
          try clear c6
          try clear c11
          try clear hcz12_0
          try clear hcz12_1
          try clear hcz12_2
          try clear hcz12_3
          try clear hcz12_4
          try clear hcz6_0
          try clear hcz6_1
          try clear hcz6_2
          try clear hcz6_3
          try clear hcz6_4
          try clear hcz8_0
          try clear hcz8_1
          try clear hcz8_2
          try clear hcz8_3
          try clear hcz8_4
          try clear hcz9_0
          try clear hcz9_1
          try clear hcz9_2
          try clear hcz9_3
          try clear hcz9_4
          try clear hfz12_0
          try clear hfz12_1
          try clear hfz12_2
          try clear hfz12_3
          try clear hfz12_4
          try clear hfz6_0
          try clear hfz6_1
          try clear hfz6_2
          try clear hfz6_3
          try clear hfz6_4
          try clear hfz8_0
          try clear hfz8_1
          try clear hfz8_2
          try clear hfz8_3
          try clear hfz8_4
          try clear hfz9_0
          try clear hfz9_1
          try clear hfz9_2
          try clear hfz9_3
          try clear hfz9_4
          try clear p2
          obtain ⟨x17_2, rfl, HA, HK2, BK107, HB⟩ := hrel
          cases gk with
          | zero => exact absurd HA.out (by simp [wavelettop_smallPlane.l0])
          | succ k2 =>
            have H := HA.out
            clear HA
            simp only [wavelettop_smallPlane.l0] at H
            by_cases c13 : x17_2 < (l0_4.length : Int)
            · rw [if_pos c13] at H
              have c13b0 : decide (x17_2 < (l0_4.length : Int)) = true := decide_eq_true c13
              clear c13
              by_cases c14 : 0 ≤ x17_2
              · rw [if_pos c14] at H
                have c14b0 : decide (0 ≤ x17_2) = true := decide_eq_true c14
                clear c14
                by_cases c15 : x17_2 < (l0_4.length : Int)
                · rw [if_pos c15] at H
                  have c15b0 : decide (x17_2 < (l0_4.length : Int)) = true := decide_eq_true c15
                  clear c15
                  by_cases c16 : (rd l0_4 x17_2) < (-65536)
                  · rw [if_pos c16] at H
                    have c16b0 : decide ((rd l0_4 x17_2) < (-65536)) = true := decide_eq_true c16
                    clear c16
                    obtain rfl := Option.some.inj H
                    have p109 : 0 ≤ (x17_2 : Int) := of_decide_eq_true (by first | (with_reducible assumption) | assumption)
                    have q109 : x17_2 < (l0_4.length : Int) := of_decide_eq_true (by first | (with_reducible assumption) | assumption)
                    obtain ⟨ad109, e109, hx109_0⟩ := Kd.at_int HR0_4.out x17_2 p109 q109
                    cases e109
                    replace hx109_0 := (HB.out.cell (World.block_lt_of_cell? w _ hx109_0)).trans hx109_0
                    replace p109 := eq_true p109
                    replace q109 := eq_true q109
                    go_wp2
                    go_ret
                    exact ⟨by first | rfl | (simp [errW_none, errW_some] <;> rfl) | (simp [*, errW_none, errW_some] <;> rfl), by repeat (first | (with_reducible first | exact HB.out | apply below_alloc | apply pw_below_drewN | apply below_drew1 | refine below_set ?_ GE107.out) | exact HB.out)⟩
                  · rw [if_neg c16] at H
                    have c16b0 : decide ((rd l0_4 x17_2) < (-65536)) = false := decide_eq_false c16
                    clear c16
                    by_cases c17 : (rd l0_4 x17_2) > 65536
                    · rw [if_pos c17] at H
                      have c17b0 : decide (65536 < (rd l0_4 x17_2)) = true := decide_eq_true c17
                      clear c17
                      obtain rfl := Option.some.inj H
                      have p109 : 0 ≤ (x17_2 : Int) := of_decide_eq_true (by first | (with_reducible assumption) | assumption)
                      have q109 : x17_2 < (l0_4.length : Int) := of_decide_eq_true (by first | (with_reducible assumption) | assumption)
                      obtain ⟨ad109, e109, hx109_0⟩ := Kd.at_int HR0_4.out x17_2 p109 q109
                      cases e109
                      replace hx109_0 := (HB.out.cell (World.block_lt_of_cell? w _ hx109_0)).trans hx109_0
                      replace p109 := eq_true p109
                      replace q109 := eq_true q109
                      go_wp2
                      go_ret
                      exact ⟨by first | rfl | (simp [errW_none, errW_some] <;> rfl) | (simp [*, errW_none, errW_some] <;> rfl), by repeat (first | (with_reducible first | exact HB.out | apply below_alloc | apply pw_below_drewN | apply below_drew1 | refine below_set ?_ GE107.out) | exact HB.out)⟩
                    · rw [if_neg c17] at H
                      have c17b0 : decide (65536 < (rd l0_4 x17_2)) = false := decide_eq_false c17
                      clear c17
                      have H' := Aside0.mk H
                      clear H
                      have p109 : 0 ≤ (x17_2 : Int) := of_decide_eq_true (by first | (with_reducible assumption) | assumption)
                      have q109 : x17_2 < (l0_4.length : Int) := of_decide_eq_true (by first | (with_reducible assumption) | assumption)
                      obtain ⟨ad109, e109, hx109_0⟩ := Kd.at_int HR0_4.out x17_2 p109 q109
                      cases e109
                      replace hx109_0 := (HB.out.cell (World.block_lt_of_cell? w _ hx109_0)).trans hx109_0
                      replace p109 := eq_true p109
                      replace q109 := eq_true q109
                      go_wp2
                      go_roundg k2
                      case measure => have := HJ1.out; have := HK2.out; omega
                      case rel => exact ⟨(wrap64 (x17_2 + 1)), (by first | rfl | (simp; done) | (simp [*]; done)), H', ⟨by have := HJ1.out; have := HK2.out; omega⟩, ⟨by (with_reducible repeat (first | refine blk_drewN ?_ _ | refine blk_drew ?_ | refine blk_alloc ?_ _)); exact BK107.out⟩, ⟨by repeat (first | (with_reducible first | exact HB.out | apply below_alloc | apply pw_below_drewN | apply below_drew1 | refine below_set ?_ GE107.out) | exact HB.out)⟩⟩
                · rw [if_neg c15] at H
                  exact absurd H (by simp)
              · rw [if_neg c14] at H
                exact absurd H (by simp)
            · rw [if_neg c13] at H
              have c13b0 : decide (x17_2 < (l0_4.length : Int)) = false := decide_eq_false c13
              clear c13
              obtain rfl := Option.some.inj H
              go_wp2
              go_ret
              exact ⟨by first | rfl | (simp [errW_none, errW_some] <;> rfl) | (simp [*, errW_none, errW_some] <;> rfl), by repeat (first | (with_reducible first | exact HB.out | apply below_alloc | apply pw_below_drewN | apply below_drew1 | refine below_set ?_ GE107.out) | exact HB.out)⟩

end Go.Proofs.Ytcnpekpgghppnaa.Q

namespace Go.Proofs.Ytcnpekpgghppnaa.Q
open Go.RowKit Go.Proofs.YtcnpekpgghppnaaW.PrintWords Go.Proofs.YtcnpekpgghppnaaW.PrintLast Go.Proofs.YtcnpekpgghppnaaW.PrintMore
attribute [local go_sem] max2_int min2_int max_two min_two max_three min_three max_four min_four   -- for this text's walks alone
set_option linter.unusedVariables false
set_option linter.unusedSimpArgs false

/-! ### wavelettop_knownKernel: function 7 -/
def wavelettop_knownKernel.f (a0 : Int) : Option (Bool) := if a0 ≥ 1 then (some (decide (a0 ≤ 3))) else (some false)
set_option maxHeartbeats 8000000 in
set_option maxRecDepth 100000 in
theorem wavelettop_knownKernel.calls (a0 : Int) (r : Bool) (w : World) (h : wavelettop_knownKernel.f a0 = some r) :
    Calls Try.prog 7 #[.int .i64 a0] w fun e w' => e = .returned (.bool r) ∧ Drawn0 w w' := by
  have H : (if a0 ≥ 1 then (some (decide (a0 ≤ 3))) else (some false)) = some r := h
  clear h
  by_cases c2 : a0 ≥ 1
  · rw [if_pos c2] at H
    have c2b0 : decide (1 ≤ a0) = true := decide_eq_true c2
    clear c2
    obtain rfl := Option.some.inj H
    go_enter Try.func7, Try.ntmps7
    go_wp2
    go_ret
    exact ⟨by first | rfl | (simp; done) | (simp [*]; done), by repeat (first | exact Drawn0.refl _ | apply Drawn0.step)⟩
  · rw [if_neg c2] at H
    have c2b0 : decide (1 ≤ a0) = false := decide_eq_false c2
    clear c2
    obtain rfl := Option.some.inj H
    go_enter Try.func7, Try.ntmps7
    go_wp2
    go_ret
    exact ⟨by first | rfl | (simp; done) | (simp [*]; done), by repeat (first | exact Drawn0.refl _ | apply Drawn0.step)⟩

end Go.Proofs.Ytcnpekpgghppnaa.Q
