/- Texts of this session (words and printed walks, merged by wip/tools/merge.py) for the statement of the claim. -/
import Derived.Test.YtihfopblmjgfaaaMQuants1
import Derived.Test.YtihfopblmjgfaaaMQuants2
import Derived.Test.YtihfopblmjgfaaaMQuants3
import Derived.Test.YtihfopblmjgfaaaMQuants4
import Derived.Laws.BitsLemmas
/- The reference's Clone. Printed by wip/tools/genClone3.py of this session. -/
namespace Go.Proofs.Ytihfopblmjgfaaa.Q
open Go.RowKit Go.Proofs.YtihfopblmjgfaaaW.PrintWords Go.Proofs.YtihfopblmjgfaaaW.PrintLast Go.Proofs.YtihfopblmjgfaaaW.PrintMore
set_option linter.unusedVariables false
set_option linter.unusedSimpArgs false
/-! ### waveletref23_Clone: function 55 -/
def waveletref23_Clone.f (a0_0 : Int) (a0_1 : Int) (a0_2 : Int) (a0_3 : Int) (a0_4 : Int) (a0_5 : Int) (l0_6 : List (S97)) (a1_0 : Int) (a1_1 : Int) (a1_2 : Int) (a1_3 : Int) (a1_4 : Int) (l1_5 : List (S89)) (a1_6 : Int) (a1_7 : Int) (a1_8 : Bool) (a1_9 : Bool) (a1_10 : Bool) (a1_11 : Bool) (a1_12 : Bool) (a1_13 : Bool) (a1_14 : Bool) (a1_15 : Bool) (l1_16 : List Int) (a1_17 : Int) (a1_18 : Int) : Option (Int × Int × Int × Int × Int × Int × (List (S97)) × Int × Int × Int × Int × Int × (List (S89)) × Int × Int × Bool × Bool × Bool × Bool × Bool × Bool × Bool × Bool × List Int × Int × Int) := (some (([] : List (S97)) : List (S97))).bind fun y408 => (if y408.length + l0_6.length < 4398046511104 then ((some (([] : List (S89)) : List (S89))).bind fun y414 => (if y414.length + l1_5.length < 8796093022208 then ((some (([] : List Int) : List Int)).bind fun y420 => (if y420.length + l1_16.length < 17592186044416 then (some (a0_0, a0_1, a0_2, a0_3, a0_4, a0_5, (y408 ++ l0_6), a1_0, a1_1, a1_2, a1_3, a1_4, (y414 ++ l1_5), a1_6, a1_7, a1_8, a1_9, a1_10, a1_11, a1_12, a1_13, a1_14, a1_15, (y420 ++ l1_16), a1_17, a1_18)) else (none))) else (none))) else (none))
set_option maxHeartbeats 8000000 in
set_option maxRecDepth 100000 in
theorem waveletref23_Clone.calls (a0_0 : Int) (a0_1 : Int) (a0_2 : Int) (a0_3 : Int) (a0_4 : Int) (a0_5 : Int) (A0_6 : Option Addr) (c0_6 : Nat) (l0_6 : List (S97)) (a1_0 : Int) (a1_1 : Int) (a1_2 : Int) (a1_3 : Int) (a1_4 : Int) (A1_5 : Option Addr) (c1_5 : Nat) (l1_5 : List (S89)) (a1_6 : Int) (a1_7 : Int) (a1_8 : Bool) (a1_9 : Bool) (a1_10 : Bool) (a1_11 : Bool) (a1_12 : Bool) (a1_13 : Bool) (a1_14 : Bool) (a1_15 : Bool) (A1_16 : Option Addr) (c1_16 : Nat) (l1_16 : List Int) (a1_17 : Int) (a1_18 : Int) (r1 : Int) (r2 : Int) (r3 : Int) (r4 : Int) (r5 : Int) (r6 : Int) (r7 : List (S97)) (r8 : Int) (r9 : Int) (r10 : Int) (r11 : Int) (r12 : Int) (r13 : List (S89)) (r14 : Int) (r15 : Int) (r16 : Bool) (r17 : Bool) (r18 : Bool) (r19 : Bool) (r20 : Bool) (r21 : Bool) (r22 : Bool) (r23 : Bool) (r24 : List Int) (r25 : Int) (r26 : Int) (w : World) (hr0_6 : Kd.C k97 w A0_6 l0_6.length l0_6) (hc0_6 : l0_6.length ≤ c0_6) (hr1_5 : Kd.C k89 w A1_5 l1_5.length l1_5) (hc1_5 : l1_5.length ≤ c1_5) (hr1_16 : Kd.C (Kd.int .i64) w A1_16 l1_16.length l1_16) (hc1_16 : l1_16.length ≤ c1_16) (h : waveletref23_Clone.f a0_0 a0_1 a0_2 a0_3 a0_4 a0_5 l0_6 a1_0 a1_1 a1_2 a1_3 a1_4 l1_5 a1_6 a1_7 a1_8 a1_9 a1_10 a1_11 a1_12 a1_13 a1_14 a1_15 l1_16 a1_17 a1_18 = some (r1, r2, r3, r4, r5, r6, r7, r8, r9, r10, r11, r12, r13, r14, r15, r16, r17, r18, r19, r20, r21, r22, r23, r24, r25, r26)) :
    Calls Try.prog 55 #[.agg #[.int .i64 a0_0, .int .i64 a0_1, .int .i64 a0_2, .int .i64 a0_3, .int .i64 a0_4, .int .i64 a0_5, .slice A0_6 l0_6.length c0_6], .agg #[.int .i64 a1_0, .int .i64 a1_1, .int .i64 a1_2, .int .i64 a1_3, .int .i64 a1_4, .slice A1_5 l1_5.length c1_5, .int .i64 a1_6, .int .i64 a1_7, .bool a1_8, .bool a1_9, .bool a1_10, .bool a1_11, .bool a1_12, .bool a1_13, .bool a1_14, .bool a1_15, .slice A1_16 l1_16.length c1_16, .int .i64 a1_17, .int .i64 a1_18]] w fun e w' => ∃ v6_ v12_ v23_ : Value, e = .returned (.tuple #[.agg #[.int .i64 r1, .int .i64 r2, .int .i64 r3, .int .i64 r4, .int .i64 r5, .int .i64 r6, v6_], .agg #[.int .i64 r8, .int .i64 r9, .int .i64 r10, .int .i64 r11, .int .i64 r12, v12_, .int .i64 r14, .int .i64 r15, .bool r16, .bool r17, .bool r18, .bool r19, .bool r20, .bool r21, .bool r22, .bool r23, v23_, .int .i64 r25, .int .i64 r26]]) ∧ Kd.R k97 97 w' w.heap.size (fun _ => True) v6_ r7 ∧ Kd.R k89 89 w' w.heap.size (fun _ => True) v12_ r13 ∧ Kd.R (Kd.int .i64) 3 w' w.heap.size (fun _ => True) v23_ r24 ∧ Below w.heap.size w w' := by
  simp only [waveletref23_Clone.f, Option.bind_some, List.length_nil, Nat.zero_add, List.nil_append, Option.ite_none_right_eq_some, Option.some.injEq, Prod.mk.injEq] at h
  obtain ⟨lm6, lm5, lm16, rfl, rfl, rfl, rfl, rfl, rfl, rfl, rfl, rfl, rfl, rfl, rfl, rfl, rfl, rfl, rfl, rfl, rfl, rfl, rfl, rfl, rfl, rfl, rfl, rfl, rfl⟩ := h
  have HR6 := Aside0.mk hr0_6
  have HR5 := Aside0.mk hr1_5
  have HR16 := Aside0.mk hr1_16
  have LM := Aside0.mk (And.intro lm6 (And.intro lm5 lm16))
  clear hr0_6 hr1_5 hr1_16 lm6 lm5 lm16
  go_enter Try.func55, Try.ntmps55
  go_wp2
  generalize hW : ((((w.alloc (Obj.cells #[.int .i64 a0_0, .int .i64 a0_1, .int .i64 a0_2, .int .i64 a0_3, .int .i64 a0_4, .int .i64 a0_5, .slice A0_6 l0_6.length c0_6] 67)).alloc (Obj.cells #[.int .i64 a1_0, .int .i64 a1_1, .int .i64 a1_2, .int .i64 a1_3, .int .i64 a1_4, .slice A1_5 l1_5.length c1_5, .int .i64 a1_6, .int .i64 a1_7, .bool a1_8, .bool a1_9, .bool a1_10, .bool a1_11, .bool a1_12, .bool a1_13, .bool a1_14, .bool a1_15, .slice A1_16 l1_16.length c1_16, .int .i64 a1_17, .int .i64 a1_18] 55)).alloc (Obj.cells #[.int .i64 0, .int .i64 0, .int .i64 0, .int .i64 0, .int .i64 0, .int .i64 0, .slice none 0 0] 67)).alloc (Obj.cells #[.int .i64 0, .int .i64 0, .int .i64 0, .int .i64 0, .int .i64 0, .slice none 0 0, .int .i64 0, .int .i64 0, .bool false, .bool false, .bool false, .bool false, .bool false, .bool false, .bool false, .bool false, .slice none 0 0, .int .i64 0, .int .i64 0] 55)) = W0
  have K0 : Bks w.heap.size w W0 [(w.heap.size + 1 + 1 + 1, 55, #[.int .i64 0, .int .i64 0, .int .i64 0, .int .i64 0, .int .i64 0, .slice none 0 0, .int .i64 0, .int .i64 0, .bool false, .bool false, .bool false, .bool false, .bool false, .bool false, .bool false, .bool false, .slice none 0 0, .int .i64 0, .int .i64 0]), (w.heap.size + 1 + 1, 67, #[.int .i64 0, .int .i64 0, .int .i64 0, .int .i64 0, .int .i64 0, .int .i64 0, .slice none 0 0]), (w.heap.size + 1, 55, #[.int .i64 a1_0, .int .i64 a1_1, .int .i64 a1_2, .int .i64 a1_3, .int .i64 a1_4, .slice A1_5 l1_5.length c1_5, .int .i64 a1_6, .int .i64 a1_7, .bool a1_8, .bool a1_9, .bool a1_10, .bool a1_11, .bool a1_12, .bool a1_13, .bool a1_14, .bool a1_15, .slice A1_16 l1_16.length c1_16, .int .i64 a1_17, .int .i64 a1_18]), (w.heap.size, 67, #[.int .i64 a0_0, .int .i64 a0_1, .int .i64 a0_2, .int .i64 a0_3, .int .i64 a0_4, .int .i64 a0_5, .slice A0_6 l0_6.length c0_6])] := by
    have h1 := (Bks.nil w).alloc (Nat.le_refl _) #[.int .i64 a0_0, .int .i64 a0_1, .int .i64 a0_2, .int .i64 a0_3, .int .i64 a0_4, .int .i64 a0_5, .slice A0_6 l0_6.length c0_6] 67
    have h2 := h1.alloc (by simp) #[.int .i64 a1_0, .int .i64 a1_1, .int .i64 a1_2, .int .i64 a1_3, .int .i64 a1_4, .slice A1_5 l1_5.length c1_5, .int .i64 a1_6, .int .i64 a1_7, .bool a1_8, .bool a1_9, .bool a1_10, .bool a1_11, .bool a1_12, .bool a1_13, .bool a1_14, .bool a1_15, .slice A1_16 l1_16.length c1_16, .int .i64 a1_17, .int .i64 a1_18] 55
    have h3 := h2.alloc (by simp; omega) #[.int .i64 0, .int .i64 0, .int .i64 0, .int .i64 0, .int .i64 0, .int .i64 0, .slice none 0 0] 67
    have h4 := h3.alloc (by simp; omega) #[.int .i64 0, .int .i64 0, .int .i64 0, .int .i64 0, .int .i64 0, .slice none 0 0, .int .i64 0, .int .i64 0, .bool false, .bool false, .bool false, .bool false, .bool false, .bool false, .bool false, .bool false, .slice none 0 0, .int .i64 0, .int .i64 0] 55
    rw [hW] at h4
    simpa using h4
  generalize h3 : w.heap.size + 1 + 1 + 1 = g3 at *
  generalize h2 : w.heap.size + 1 + 1 = g2 at *
  generalize h1 : w.heap.size + 1 = g1 at *
  generalize h0 : w.heap.size = g0 at K0 ⊢
  clear hW h1 h2 h3
  have K1 := Aside0.mk K0.drew
  clear K0
  refine start_ (n := 6) (S := fun w' => w'.heap[g0]? = some (.cells #[.int .i64 a0_0, .int .i64 a0_1, .int .i64 a0_2, .int .i64 a0_3, .int .i64 a0_4, .int .i64 a0_5, .slice A0_6 l0_6.length c0_6] 67 (0, 0)) ∧ w'.heap[g1]? = some (.cells #[.int .i64 a1_0, .int .i64 a1_1, .int .i64 a1_2, .int .i64 a1_3, .int .i64 a1_4, .slice A1_5 l1_5.length c1_5, .int .i64 a1_6, .int .i64 a1_7, .bool a1_8, .bool a1_9, .bool a1_10, .bool a1_11, .bool a1_12, .bool a1_13, .bool a1_14, .bool a1_15, .slice A1_16 l1_16.length c1_16, .int .i64 a1_17, .int .i64 a1_18] 55 (0, 0))) (ds := []) #[false, false, false, false, false, false] (by kernel_rfl) rfl rfl ⟨K1.out.get 3 rfl, K1.out.get 2 rfl⟩ (fun hHeld => ?_)
  generalize W0.drew = w1 at *
  clear W0
  refine take_ (i := 0) (N := some 8) (v := .agg #[.int .i64 a0_0, .int .i64 a0_1, .int .i64 a0_2, .int .i64 a0_3, .int .i64 a0_4, .int .i64 a0_5, .slice A0_6 l0_6.length c0_6]) (a' := ?_) #[true, false, false, false, false, false] rfl rfl (by kernel_rfl) (fun _ _ _ h => h) (load_yields (by rfl) 67 (.tmp 2) rfl rfl (fun _ h => h.1) Try.underlying67 rfl) hHeld ?_ ?_
  rotate_left
  · simp only [Act.put, List.setIfInBounds_toArray, List.set_cons_zero, List.set_cons_succ]
    rfl
  refine take_ (i := 1) (N := some 9) (v := .agg #[.int .i64 a1_0, .int .i64 a1_1, .int .i64 a1_2, .int .i64 a1_3, .int .i64 a1_4, .slice A1_5 l1_5.length c1_5, .int .i64 a1_6, .int .i64 a1_7, .bool a1_8, .bool a1_9, .bool a1_10, .bool a1_11, .bool a1_12, .bool a1_13, .bool a1_14, .bool a1_15, .slice A1_16 l1_16.length c1_16, .int .i64 a1_17, .int .i64 a1_18]) (a' := ?_) #[true, true, false, false, false, false] rfl rfl (by kernel_rfl) (fun _ _ _ h => h) (load_yields (by rfl) 55 (.tmp 3) rfl rfl (fun _ h => h.2) Try.underlying55 rfl) hHeld ?_ ?_
  rotate_left
  · simp only [Act.put, List.setIfInBounds_toArray, List.set_cons_zero, List.set_cons_succ]
    rfl
  refine join_ (σ := Nat × Nat) 2 #[true, true, true, true, false, false] (fun s_ => [(6, .pointer (some ⟨s_.1, 0, none⟩)), (7, .pointer (some ⟨s_.2, 0, none⟩))]) (fun s_ w' => Bks g0 w w' [(s_.1, 67, #[.int .i64 0, .int .i64 0, .int .i64 0, .int .i64 0, .int .i64 0, .int .i64 0, .slice none 0 0]), (s_.2, 55, #[.int .i64 0, .int .i64 0, .int .i64 0, .int .i64 0, .int .i64 0, .slice none 0 0, .int .i64 0, .int .i64 0, .bool false, .bool false, .bool false, .bool false, .bool false, .bool false, .bool false, .bool false, .slice none 0 0, .int .i64 0, .int .i64 0]), (g3, 55, #[.int .i64 0, .int .i64 0, .int .i64 0, .int .i64 0, .int .i64 0, .slice none 0 0, .int .i64 0, .int .i64 0, .bool false, .bool false, .bool false, .bool false, .bool false, .bool false, .bool false, .bool false, .slice none 0 0, .int .i64 0, .int .i64 0]), (g2, 67, #[.int .i64 0, .int .i64 0, .int .i64 0, .int .i64 0, .int .i64 0, .int .i64 0, .slice none 0 0]), (g1, 55, #[.int .i64 a1_0, .int .i64 a1_1, .int .i64 a1_2, .int .i64 a1_3, .int .i64 a1_4, .slice A1_5 l1_5.length c1_5, .int .i64 a1_6, .int .i64 a1_7, .bool a1_8, .bool a1_9, .bool a1_10, .bool a1_11, .bool a1_12, .bool a1_13, .bool a1_14, .bool a1_15, .slice A1_16 l1_16.length c1_16, .int .i64 a1_17, .int .i64 a1_18]), (g0, 67, #[.int .i64 a0_0, .int .i64 a0_1, .int .i64 a0_2, .int .i64 a0_3, .int .i64 a0_4, .int .i64 a0_5, .slice A0_6 l0_6.length c0_6])]) ?_ ?_
  rotate_left
  · intro hCont
    have hs1 := below_size (h0 ▸ K1.out.below)
    refine two_ (i := 2) (j := 3) (Ni := some 6) (Nj := some 7) #[true, true, true, false, false, false] #[true, true, false, true, false, false] rfl rfl rfl rfl (by kernel_rfl) (by decide) (by decide) (fun K hK => ?_) (fun K hK => ?_)
    · refine box_step ?hg (N := 6) ?hd (cs := #[.int .i64 0, .int .i64 0, .int .i64 0, .int .i64 0, .int .i64 0, .int .i64 0, .slice none 0 0]) (t := 67) ?hr ?_; (case hd => rfl); (case hg => rfl); (case hr => first | (go_simp; done) | (go_simp; rfl))
      intro gb6 hg w2 hbox hb
      have K2 := K1.out.box (h0 ▸ hs1) hg hbox hb
      refine hK.out _ _ ⟨K2.get 4 rfl, K2.get 3 rfl⟩ (fun hHeld => ?_)
      clear hK K
      refine norm_ (a' := ?_) ?_ ?_
      rotate_left
      · show Act.put _ (some 6) _ = _
        simp only [Act.put, List.setIfInBounds_toArray, List.set_cons_zero, List.set_cons_succ]
        rfl
      refine one_ (i := 3) (N := some 7) #[true, true, true, true, false, false] rfl rfl (by kernel_rfl) (by decide) (fun K hK => ?_)
      refine box_step ?hg (N := 7) ?hd (cs := #[.int .i64 0, .int .i64 0, .int .i64 0, .int .i64 0, .int .i64 0, .slice none 0 0, .int .i64 0, .int .i64 0, .bool false, .bool false, .bool false, .bool false, .bool false, .bool false, .bool false, .bool false, .slice none 0 0, .int .i64 0, .int .i64 0]) (t := 55) ?hr ?_; (case hd => rfl); (case hg => rfl); (case hr => first | (go_simp; done) | (go_simp; rfl))
      intro gb7 hg w3 hbox hb
      have K3 := K2.box (h0 ▸ below_size (h0 ▸ K2.below)) hg hbox hb
      refine hK.out _ _ ⟨K3.get 5 rfl, K3.get 4 rfl⟩ (fun hHeld => ?_)
      refine norm_ (a' := ?_) ?_ ?_
      rotate_left
      · show Act.put _ (some 7) _ = _
        simp only [Act.put, List.setIfInBounds_toArray, List.set_cons_zero, List.set_cons_succ]
        rfl
      exact norm_ (by simp only [putAll, Act.put, List.setIfInBounds_toArray, List.set_cons_zero, List.set_cons_succ]) (hCont (gb6, gb7) _ K3.swap)
    · refine box_step ?hg (N := 7) ?hd (cs := #[.int .i64 0, .int .i64 0, .int .i64 0, .int .i64 0, .int .i64 0, .slice none 0 0, .int .i64 0, .int .i64 0, .bool false, .bool false, .bool false, .bool false, .bool false, .bool false, .bool false, .bool false, .slice none 0 0, .int .i64 0, .int .i64 0]) (t := 55) ?hr ?_; (case hd => rfl); (case hg => rfl); (case hr => first | (go_simp; done) | (go_simp; rfl))
      intro gb7 hg w2 hbox hb
      have K2 := K1.out.box (h0 ▸ hs1) hg hbox hb
      refine hK.out _ _ ⟨K2.get 4 rfl, K2.get 3 rfl⟩ (fun hHeld => ?_)
      clear hK K
      refine norm_ (a' := ?_) ?_ ?_
      rotate_left
      · show Act.put _ (some 7) _ = _
        simp only [Act.put, List.setIfInBounds_toArray, List.set_cons_zero, List.set_cons_succ]
        rfl
      refine one_ (i := 2) (N := some 6) #[true, true, true, true, false, false] rfl rfl (by kernel_rfl) (by decide) (fun K hK => ?_)
      refine box_step ?hg (N := 6) ?hd (cs := #[.int .i64 0, .int .i64 0, .int .i64 0, .int .i64 0, .int .i64 0, .int .i64 0, .slice none 0 0]) (t := 67) ?hr ?_; (case hd => rfl); (case hg => rfl); (case hr => first | (go_simp; done) | (go_simp; rfl))
      intro gb6 hg w3 hbox hb
      have K3 := K2.box (h0 ▸ below_size (h0 ▸ K2.below)) hg hbox hb
      refine hK.out _ _ ⟨K3.get 5 rfl, K3.get 4 rfl⟩ (fun hHeld => ?_)
      refine norm_ (a' := ?_) ?_ ?_
      rotate_left
      · show Act.put _ (some 6) _ = _
        simp only [Act.put, List.setIfInBounds_toArray, List.set_cons_zero, List.set_cons_succ]
        rfl
      exact norm_ (by simp only [putAll, Act.put, List.setIfInBounds_toArray, List.set_cons_zero, List.set_cons_succ]) (hCont (gb6, gb7) _ K3)
  clear K1 hHeld w1
  intro ⟨g6, g7⟩ w1 k1
  have K1 := Aside0.mk k1
  clear k1
  refine norm_ (a' := ?_) ?_ ?_
  rotate_left
  · simp only [putAll, Act.put, List.setIfInBounds_toArray, List.set_cons_zero, List.set_cons_succ]
    rfl
  refine one_ (i := 4) (N := none) #[true, true, true, true, true, false] rfl rfl (by kernel_rfl) (by decide) (fun K hK => ?_)
  refine store_step (by rfl) rfl 67 (.tmp 6) (.tmp 8) rfl rfl rfl (K1.out.get 0 rfl) rfl rfl (by first | (kernel_rfl) | (simp [Value.oneCell'])) (fun w2 hs => ?_)
  have K2 := Aside0.mk (K1.out.stored 0 rfl hs)
  clear K1 hs
  refine hK.out _ _ ⟨K2.out.get 5 rfl, K2.out.get 4 rfl⟩ (fun hHeld => ?_)
  clear hK K
  refine one_ (i := 5) (N := none) #[true, true, true, true, true, true] rfl rfl (by kernel_rfl) (by decide) (fun K hK => ?_)
  refine store_step (by rfl) rfl 55 (.tmp 7) (.tmp 9) rfl rfl rfl (K2.out.get 1 rfl) rfl rfl (by first | (kernel_rfl) | (simp [Value.oneCell'])) (fun w3 hs => ?_)
  have K3 := Aside0.mk (K2.out.stored 1 rfl hs)
  clear K2 hs
  refine hK.out _ _ ⟨K3.out.get 5 rfl, K3.out.get 4 rfl⟩ (fun hHeld => ?_)
  clear hK K hHeld
  refine done_ (by kernel_rfl) ?_
  go_wp2_with (first | ((with_reducible refine gate_dst (N := 10) rfl ?_); refine Kd.R_lit k97 _ 97 ?hg (N := 10) ?hd (xs := ([] : List S97)) (inner := []) (ok := fun _ => True) (okp := fun _ => True) ?hr ?hp (fun _ hk => hk) trivial (Below.refl _ _) (Nat.le_refl _) (by simp) ?_; (case hd => rfl); (case hg => rfl); (case hr => first | (go_simp; done) | (go_simp; rfl)); (case hp => exact (Reps.none _ _)); intro vl1 wA1 ho hb hg_ hnew_; clear hg_ hnew_; have HO := Aside0.mk ho; have HB := Aside0.mk hb; clear ho hb; have Ka1 := Aside0.mk (K3.out.call (h0 ▸ below_size (h0 ▸ K3.out.below)) HB.out); have hld : wA1.cell? ⟨g0, 6, none⟩ = some (.slice A0_6 l0_6.length c0_6) := Ka1.out.cell 5 rfl 6 rfl) | ((with_reducible refine gate_builtin (b := .append) (xs := #[.tmp 10, .tmp 12]) rfl ?_); at_builtin; refine Kd.R_append_rows k97 (w0 := w3) w3.heap.size rfl (.tmp 10) (.tmp 12) 65 97 (.agg #[(.int .i64 0), (.bool false), (.int .i64 0), (.int .i64 0)]) 32 rfl Try.underlying65 info97 rfl (by decide) (by omega) vl1 [] l0_6 _ _ _ (fun _ => True) (fun _ => False) rfl rfl HO.out ?aR (fun _ _ h => h) (fun _ h => h.elim) (fun _ _ => trivial) HB.out ?aS ?aL ?_; (case aR => exact Kd.C_below (Kd.C_below HR6.out (h0 ▸ K3.out.below)) HB.out); (case aS => exact HB.out.size); (case aL => have := LM.out.1; simp; omega); intro vm1 wB1 ho hb hg hat; simp only [List.nil_append] at ho; have HO2 := Aside0.mk ho; have HB2 := Aside0.mk hb; clear ho hb hg hat; obtain ⟨Ao1, co1, rfl⟩ := Kd.R_slice HO2.out; have Kb1 := Aside0.mk (K3.out.call (h0 ▸ below_size (h0 ▸ K3.out.below)) HB2.out); have hst : wB1.cell? ⟨g6, 6, none⟩ = some (.slice A0_6 l0_6.length c0_6) := Kb1.out.cell 0 rfl 6 rfl; have hz := blk_frozen (Kb1.out.get 0 rfl) 6; have K4 := Aside0.mk (Kb1.out.set 0 rfl 6 (.slice Ao1 l0_6.length co1) rfl); have R6 := Aside0.mk (row_set (Kd.R_lower HO2.out (below_size (h0 ▸ K3.out.below))) (Kb1.out.get 0 rfl) (by decide) 6 (.slice Ao1 l0_6.length co1)); clear K3 Ka1 Kb1 HO2 HB2 HO HB hld) | ((with_reducible refine gate_dst (N := 15) rfl ?_); clear hst hz; generalize wB1.setCell ⟨g6, 6, none⟩ (.slice Ao1 l0_6.length co1) = w4 at *; refine Kd.R_lit k89 _ 89 ?hg (N := 15) ?hd (xs := ([] : List S89)) (inner := []) (ok := fun _ => True) (okp := fun _ => True) ?hr ?hp (fun _ hk => hk) trivial (Below.refl _ _) (Nat.le_refl _) (by simp) ?_; (case hd => rfl); (case hg => rfl); (case hr => first | (go_simp; done) | (go_simp; rfl)); (case hp => exact (Reps.none _ _)); intro vl2 wA2 ho hb hg_ hnew_; clear hg_ hnew_; have HO := Aside0.mk ho; have HB := Aside0.mk hb; clear ho hb; have Ka2 := Aside0.mk (K4.out.call (h0 ▸ below_size (h0 ▸ K4.out.below)) HB.out); have hld : wA2.cell? ⟨g1, 5, none⟩ = some (.slice A1_5 l1_5.length c1_5) := Ka2.out.cell 4 rfl 5 rfl) | ((with_reducible refine gate_builtin (b := .append) (xs := #[.tmp 15, .tmp 17]) rfl ?_); at_builtin; refine Kd.R_append_rows k89 (w0 := w4) w4.heap.size rfl (.tmp 15) (.tmp 17) 50 89 (.agg #[(.int .i64 0), (.int .i64 0)]) 16 rfl Try.underlying50 info89 rfl (by decide) (by omega) vl2 [] l1_5 _ _ _ (fun _ => True) (fun _ => False) rfl rfl HO.out ?aR (fun _ _ h => h) (fun _ h => h.elim) (fun _ _ => trivial) HB.out ?aS ?aL ?_; (case aR => exact Kd.C_below (Kd.C_below HR5.out (h0 ▸ K4.out.below)) HB.out); (case aS => exact HB.out.size); (case aL => have := LM.out.2.1; simp; omega); intro vm2 wB2 ho hb hg hat; simp only [List.nil_append] at ho; have HO2 := Aside0.mk ho; have HB2 := Aside0.mk hb; clear ho hb hg hat; obtain ⟨Ao2, co2, rfl⟩ := Kd.R_slice HO2.out; have Kb2 := Aside0.mk (K4.out.call (h0 ▸ below_size (h0 ▸ K4.out.below)) HB2.out); have hst : wB2.cell? ⟨g7, 5, none⟩ = some (.slice A1_5 l1_5.length c1_5) := Kb2.out.cell 1 rfl 5 rfl; have hz := blk_frozen (Kb2.out.get 1 rfl) 5; have K5 := Aside0.mk (Kb2.out.set 1 rfl 5 (.slice Ao2 l1_5.length co2) rfl); have R5 := Aside0.mk (row_set (Kd.R_lower HO2.out (below_size (h0 ▸ K4.out.below))) (Kb2.out.get 1 rfl) (by decide) 5 (.slice Ao2 l1_5.length co2)); have R6' := Aside0.mk (row_set (Kd.R_below R6.out HB2.out) (Kb2.out.get 1 rfl) (by decide) 5 (.slice Ao2 l1_5.length co2)); clear R6; have R6 := R6'; clear R6'; clear K4 Ka2 Kb2 HO2 HB2 HO HB hld) | ((with_reducible refine gate_dst (N := 20) rfl ?_); clear hst hz; generalize wB2.setCell ⟨g7, 5, none⟩ (.slice Ao2 l1_5.length co2) = w5 at *; refine Kd.R_lit (Kd.int .i64) _ 3 ?hg (N := 20) ?hd (xs := ([] : List Int)) (inner := []) (ok := fun _ => True) (okp := fun _ => True) ?hr ?hp (fun _ hk => hk) trivial (Below.refl _ _) (Nat.le_refl _) (by simp) ?_; (case hd => rfl); (case hg => rfl); (case hr => first | (go_simp; done) | (go_simp; rfl)); (case hp => exact (Reps.none _ _)); intro vl3 wA3 ho hb hg_ hnew_; clear hg_ hnew_; have HO := Aside0.mk ho; have HB := Aside0.mk hb; clear ho hb; have Ka3 := Aside0.mk (K5.out.call (h0 ▸ below_size (h0 ▸ K5.out.below)) HB.out); have hld : wA3.cell? ⟨g1, 16, none⟩ = some (.slice A1_16 l1_16.length c1_16) := Ka3.out.cell 4 rfl 16 rfl) | ((with_reducible refine gate_builtin (b := .append) (xs := #[.tmp 20, .tmp 22]) rfl ?_); at_builtin; refine Kd.R_append_rows (Kd.int .i64) (w0 := w5) w5.heap.size rfl (.tmp 20) (.tmp 22) 39 3 (.int .i64 0) 8 rfl Try.underlying39 info3 rfl (by decide) (by omega) vl3 [] l1_16 _ _ _ (fun _ => True) (fun _ => False) rfl rfl HO.out ?aR (fun _ _ h => h) (fun _ h => h.elim) (fun _ _ => trivial) HB.out ?aS ?aL ?_; (case aR => exact Kd.C_below (Kd.C_below HR16.out (h0 ▸ K5.out.below)) HB.out); (case aS => exact HB.out.size); (case aL => have := LM.out.2.2; simp; omega); intro vm3 wB3 ho hb hg hat; simp only [List.nil_append] at ho; have HO2 := Aside0.mk ho; have HB2 := Aside0.mk hb; clear ho hb hg hat; obtain ⟨Ao3, co3, rfl⟩ := Kd.R_slice HO2.out; have Kb3 := Aside0.mk (K5.out.call (h0 ▸ below_size (h0 ▸ K5.out.below)) HB2.out); have hst : wB3.cell? ⟨g7, 16, none⟩ = some (.slice A1_16 l1_16.length c1_16) := Kb3.out.cell 1 rfl 16 rfl; have hz := blk_frozen (Kb3.out.get 1 rfl) 16; have K6 := Aside0.mk (Kb3.out.set 1 rfl 16 (.slice Ao3 l1_16.length co3) rfl); have R16 := Aside0.mk (row_set (Kd.R_lower HO2.out (below_size (h0 ▸ K5.out.below))) (Kb3.out.get 1 rfl) (by decide) 16 (.slice Ao3 l1_16.length co3)); have R6' := Aside0.mk (row_set (Kd.R_below R6.out HB2.out) (Kb3.out.get 1 rfl) (by decide) 16 (.slice Ao3 l1_16.length co3)); clear R6; have R6 := R6'; clear R6'; have R5' := Aside0.mk (row_set (Kd.R_below R5.out HB2.out) (Kb3.out.get 1 rfl) (by decide) 16 (.slice Ao3 l1_16.length co3)); clear R5; have R5 := R5'; clear R5'; clear K5 Ka3 Kb3 HO2 HB2 HO HB hld))
  clear hst hz
  generalize wB3.setCell ⟨g7, 16, none⟩ (.slice Ao3 l1_16.length co3) = w6 at *
  have K7 := Aside0.mk K6.out.drew
  have R67 := Aside0.mk (Kd.R_drew R6.out)
  have R57 := Aside0.mk (Kd.R_drew R5.out)
  have R167 := Aside0.mk (Kd.R_drew R16.out)
  clear K6 R6 R5 R16
  refine start_ (n := 4) (S := fun w' => w'.heap[g6]? = some (.cells #[.int .i64 a0_0, .int .i64 a0_1, .int .i64 a0_2, .int .i64 a0_3, .int .i64 a0_4, .int .i64 a0_5, .slice Ao1 l0_6.length co1] 67 (0, 0)) ∧ w'.heap[g7]? = some (.cells #[.int .i64 a1_0, .int .i64 a1_1, .int .i64 a1_2, .int .i64 a1_3, .int .i64 a1_4, .slice Ao2 l1_5.length co2, .int .i64 a1_6, .int .i64 a1_7, .bool a1_8, .bool a1_9, .bool a1_10, .bool a1_11, .bool a1_12, .bool a1_13, .bool a1_14, .bool a1_15, .slice Ao3 l1_16.length co3, .int .i64 a1_17, .int .i64 a1_18] 55 (0, 0))) (ds := []) #[false, false, false, false] (by kernel_rfl) rfl rfl ⟨K7.out.get 0 rfl, K7.out.get 1 rfl⟩ (fun hHeld => ?_)
  generalize w6.drew = w7 at *
  clear w6
  refine take_ (i := 0) (N := some 25) (v := .agg #[.int .i64 a0_0, .int .i64 a0_1, .int .i64 a0_2, .int .i64 a0_3, .int .i64 a0_4, .int .i64 a0_5, .slice Ao1 l0_6.length co1]) (a' := ?_) #[true, false, false, false] rfl rfl (by kernel_rfl) (fun _ _ _ h => h) (load_yields (by rfl) 67 (.tmp 6) rfl rfl (fun _ h => h.1) Try.underlying67 rfl) hHeld ?_ ?_
  rotate_left
  · simp only [Act.put, List.setIfInBounds_toArray, List.set_cons_zero, List.set_cons_succ]
    rfl
  refine take_ (i := 1) (N := some 26) (v := .agg #[.int .i64 a1_0, .int .i64 a1_1, .int .i64 a1_2, .int .i64 a1_3, .int .i64 a1_4, .slice Ao2 l1_5.length co2, .int .i64 a1_6, .int .i64 a1_7, .bool a1_8, .bool a1_9, .bool a1_10, .bool a1_11, .bool a1_12, .bool a1_13, .bool a1_14, .bool a1_15, .slice Ao3 l1_16.length co3, .int .i64 a1_17, .int .i64 a1_18]) (a' := ?_) #[true, true, false, false] rfl rfl (by kernel_rfl) (fun _ _ _ h => h) (load_yields (by rfl) 55 (.tmp 7) rfl rfl (fun _ h => h.2) Try.underlying55 rfl) hHeld ?_ ?_
  rotate_left
  · simp only [Act.put, List.setIfInBounds_toArray, List.set_cons_zero, List.set_cons_succ]
    rfl
  refine one_ (i := 2) (N := none) #[true, true, true, false] rfl rfl (by kernel_rfl) (by decide) (fun K hK => ?_)
  refine store_step (by rfl) rfl 67 (.tmp 4) (.tmp 25) rfl rfl rfl (K7.out.get 3 rfl) rfl rfl (by first | (kernel_rfl) | (simp [Value.oneCell'])) (fun w8 hs => ?_)
  have K8 := Aside0.mk (K7.out.stored 3 rfl hs)
  have R68 := Aside0.mk (row_stored R67.out (K7.out.get 3 rfl) (by decide) hs)
  have R58 := Aside0.mk (row_stored R57.out (K7.out.get 3 rfl) (by decide) hs)
  have R168 := Aside0.mk (row_stored R167.out (K7.out.get 3 rfl) (by decide) hs)
  clear K7 R67 R57 R167 hs
  refine hK.out _ _ ⟨K8.out.get 0 rfl, K8.out.get 1 rfl⟩ (fun hHeld => ?_)
  clear hK K
  refine one_ (i := 3) (N := none) #[true, true, true, true] rfl rfl (by kernel_rfl) (by decide) (fun K hK => ?_)
  refine store_step (by rfl) rfl 55 (.tmp 5) (.tmp 26) rfl rfl rfl (K8.out.get 2 rfl) rfl rfl (by first | (kernel_rfl) | (simp [Value.oneCell'])) (fun w9 hs => ?_)
  have K9 := Aside0.mk (K8.out.stored 2 rfl hs)
  have R69 := row_stored R68.out (K8.out.get 2 rfl) (by decide) hs
  have R59 := row_stored R58.out (K8.out.get 2 rfl) (by decide) hs
  have R169 := row_stored R168.out (K8.out.get 2 rfl) (by decide) hs
  clear K8 R68 R58 R168 hs
  refine hK.out _ _ ⟨K9.out.get 0 rfl, K9.out.get 1 rfl⟩ (fun hHeld => ?_)
  clear hK K
  refine done_ (by kernel_rfl) ?_
  go_wp2
  refine bodyPost_ret (results_cc rfl _ _ g2 g3 67 55 #[.int .i64 a0_0, .int .i64 a0_1, .int .i64 a0_2, .int .i64 a0_3, .int .i64 a0_4, .int .i64 a0_5, .slice Ao1 l0_6.length co1] #[.int .i64 a1_0, .int .i64 a1_1, .int .i64 a1_2, .int .i64 a1_3, .int .i64 a1_4, .slice Ao2 l1_5.length co2, .int .i64 a1_6, .int .i64 a1_7, .bool a1_8, .bool a1_9, .bool a1_10, .bool a1_11, .bool a1_12, .bool a1_13, .bool a1_14, .bool a1_15, .slice Ao3 l1_16.length co3, .int .i64 a1_17, .int .i64 a1_18] (0, 0) (0, 0) _ _ rfl (K9.out.get 3 rfl) Try.underlying67 rfl (by kernel_rfl) rfl (K9.out.get 2 rfl) Try.underlying55 rfl (by kernel_rfl)) rfl ?_
  exact ⟨_, _, _, rfl, R69, R59, R169, h0 ▸ K9.out.below⟩
end Go.Proofs.Ytihfopblmjgfaaa.Q

namespace Go.Proofs.Ytihfopblmjgfaaa.Q
open Go.RowKit Go.Proofs.YtihfopblmjgfaaaW.PrintWords Go.Proofs.YtihfopblmjgfaaaW.PrintLast Go.Proofs.YtihfopblmjgfaaaW.PrintMore
attribute [local go_sem] max2_int min2_int max_two min_two max_three min_three max_four min_four   -- for this text's walks alone
set_option linter.unusedVariables false
set_option linter.unusedSimpArgs false

/-! ### waveletref29_framed: function 50 -/
def waveletref29_framed.f (a0_0 : Int) (l0_1 : List Int) (a1 : Int) (a2 : Int) : Option (Int) := if a0_0 = a1 then (if (l0_1.length : Int) < a2 then (some 7) else (if (l0_1.length : Int) > a2 then (some 9) else (some 0))) else (some 11)
set_option maxHeartbeats 8000000 in
set_option maxRecDepth 100000 in
theorem waveletref29_framed.calls (a0_0 : Int) (A0_1 : Option Addr) (c0_1 : Nat) (l0_1 : List Int) (a1 : Int) (a2 : Int) (r : Int) (w : World) (hr0_1 : Kd.C (Kd.int .u8) w A0_1 l0_1.length l0_1) (hc0_1 : l0_1.length ≤ c0_1) (h : waveletref29_framed.f a0_0 l0_1 a1 a2 = some r) :
    Calls Try.prog 50 #[.agg #[.int .i64 a0_0, .slice A0_1 l0_1.length c0_1], .int .i64 a1, .int .i64 a2] w fun e w' => e = .returned (.int .i64 r) ∧ Below w.heap.size w w' := by
  have hu26 := Try.underlying26
  have HR0_1 := Aside0.mk hr0_1
  have HC0_1 := Aside0.mk hc0_1
  clear hr0_1 hc0_1
  have HB := Aside0.mk (Below.refl w.heap.size w)
  have H : (if a0_0 = a1 then (if (l0_1.length : Int) < a2 then (some 7) else (if (l0_1.length : Int) > a2 then (some 9) else (some 0))) else (some 11)) = some r := h
  clear h
  by_cases c4 : a0_0 = a1
  · rw [if_pos c4] at H
    have c4b0 : (a0_0 == a1) = true := beq_iff_eq.mpr c4
    have c4b1 : (a0_0 != a1) = false := bne_eq_false_iff_eq.mpr c4
    clear c4
    by_cases c5 : (l0_1.length : Int) < a2
    · rw [if_pos c5] at H
      have c5b0 : decide ((l0_1.length : Int) < a2) = true := decide_eq_true c5
      clear c5
      obtain rfl := Option.some.inj H
      go_enter Try.func50, Try.ntmps50
      go_wp2_with (first | ((with_reducible refine gate_dst (N := 3) rfl ?_); refine box_event ?hg (N := 3) ?hd (cs := #[.int .i64 a0_0, .slice A0_1 l0_1.length c0_1]) (t := 26) ?hr ?_; (case hd => rfl); (case hg => rfl); (case hr => first | (go_simp; done) | (go_simp; rfl)); intro gb131 hg w6 hbox hb; have BK131 := Aside0.mk (hbox); have GW131 := Aside0.mk ((by rw [hg]; exact (below_size (upB HB.out)) : w.heap.size ≤ gb131)); have GE131 := Aside0.mk ((by rw [hg]; exact (below_size (upB HB.out)) : w.heap.size ≤ gb131)); replace HB := Aside0.mk (below_step (upB HB.out) hb); clear hb hbox hg; have hcz7_0 : w6.cell? ⟨gb131, 0, none⟩ = some (.int .i64 a0_0) := bc BK131 0; have hcz7_1 : w6.cell? ⟨gb131, 1, none⟩ = some (.slice A0_1 l0_1.length c0_1) := bc BK131 1; have hfz7_0 := blk_frozen BK131.out 0; have hfz7_1 := blk_frozen BK131.out 1))
      go_ret
      exact ⟨by first | rfl | (simp [errW_none, errW_some] <;> rfl) | (simp [*, errW_none, errW_some] <;> rfl), by repeat (first | (with_reducible first | exact HB.out | apply below_alloc | apply pw_below_drewN | apply below_drew1 | refine below_set ?_ GE131.out) | exact HB.out)⟩
    · rw [if_neg c5] at H
      have c5b0 : decide ((l0_1.length : Int) < a2) = false := decide_eq_false c5
      clear c5
      by_cases c8 : (l0_1.length : Int) > a2
      · rw [if_pos c8] at H
        have c8b0 : decide (a2 < (l0_1.length : Int)) = true := decide_eq_true c8
        clear c8
        obtain rfl := Option.some.inj H
        go_enter Try.func50, Try.ntmps50
        go_wp2_with (first | ((with_reducible refine gate_dst (N := 3) rfl ?_); refine box_event ?hg (N := 3) ?hd (cs := #[.int .i64 a0_0, .slice A0_1 l0_1.length c0_1]) (t := 26) ?hr ?_; (case hd => rfl); (case hg => rfl); (case hr => first | (go_simp; done) | (go_simp; rfl)); intro gb131 hg w9 hbox hb; have BK131 := Aside0.mk (hbox); have GW131 := Aside0.mk ((by rw [hg]; exact (below_size (upB HB.out)) : w.heap.size ≤ gb131)); have GE131 := Aside0.mk ((by rw [hg]; exact (below_size (upB HB.out)) : w.heap.size ≤ gb131)); replace HB := Aside0.mk (below_step (upB HB.out) hb); clear hb hbox hg; have hcz10_0 : w9.cell? ⟨gb131, 0, none⟩ = some (.int .i64 a0_0) := bc BK131 0; have hcz10_1 : w9.cell? ⟨gb131, 1, none⟩ = some (.slice A0_1 l0_1.length c0_1) := bc BK131 1; have hfz10_0 := blk_frozen BK131.out 0; have hfz10_1 := blk_frozen BK131.out 1))
        go_ret
        exact ⟨by first | rfl | (simp [errW_none, errW_some] <;> rfl) | (simp [*, errW_none, errW_some] <;> rfl), by repeat (first | (with_reducible first | exact HB.out | apply below_alloc | apply pw_below_drewN | apply below_drew1 | refine below_set ?_ GE131.out) | exact HB.out)⟩
      · rw [if_neg c8] at H
        have c8b0 : decide (a2 < (l0_1.length : Int)) = false := decide_eq_false c8
        clear c8
        obtain rfl := Option.some.inj H
        go_enter Try.func50, Try.ntmps50
        go_wp2_with (first | ((with_reducible refine gate_dst (N := 3) rfl ?_); refine box_event ?hg (N := 3) ?hd (cs := #[.int .i64 a0_0, .slice A0_1 l0_1.length c0_1]) (t := 26) ?hr ?_; (case hd => rfl); (case hg => rfl); (case hr => first | (go_simp; done) | (go_simp; rfl)); intro gb131 hg w11 hbox hb; have BK131 := Aside0.mk (hbox); have GW131 := Aside0.mk ((by rw [hg]; exact (below_size (upB HB.out)) : w.heap.size ≤ gb131)); have GE131 := Aside0.mk ((by rw [hg]; exact (below_size (upB HB.out)) : w.heap.size ≤ gb131)); replace HB := Aside0.mk (below_step (upB HB.out) hb); clear hb hbox hg; have hcz12_0 : w11.cell? ⟨gb131, 0, none⟩ = some (.int .i64 a0_0) := bc BK131 0; have hcz12_1 : w11.cell? ⟨gb131, 1, none⟩ = some (.slice A0_1 l0_1.length c0_1) := bc BK131 1; have hfz12_0 := blk_frozen BK131.out 0; have hfz12_1 := blk_frozen BK131.out 1))
        go_ret
        exact ⟨by first | rfl | (simp [errW_none, errW_some] <;> rfl) | (simp [*, errW_none, errW_some] <;> rfl), by repeat (first | (with_reducible first | exact HB.out | apply below_alloc | apply pw_below_drewN | apply below_drew1 | refine below_set ?_ GE131.out) | exact HB.out)⟩
  · rw [if_neg c4] at H
    have c4b0 : (a0_0 == a1) = false := beq_eq_false_iff_ne.mpr c4
    have c4b1 : (a0_0 != a1) = true := bne_iff_ne.mpr c4
    obtain rfl := Option.some.inj H
    go_enter Try.func50, Try.ntmps50
    go_wp2_with (first | ((with_reducible refine gate_dst (N := 3) rfl ?_); refine box_event ?hg (N := 3) ?hd (cs := #[.int .i64 a0_0, .slice A0_1 l0_1.length c0_1]) (t := 26) ?hr ?_; (case hd => rfl); (case hg => rfl); (case hr => first | (go_simp; done) | (go_simp; rfl)); intro gb131 hg w13 hbox hb; have BK131 := Aside0.mk (hbox); have GW131 := Aside0.mk ((by rw [hg]; exact (below_size (upB HB.out)) : w.heap.size ≤ gb131)); have GE131 := Aside0.mk ((by rw [hg]; exact (below_size (upB HB.out)) : w.heap.size ≤ gb131)); replace HB := Aside0.mk (below_step (upB HB.out) hb); clear hb hbox hg; have hcz14_0 : w13.cell? ⟨gb131, 0, none⟩ = some (.int .i64 a0_0) := bc BK131 0; have hcz14_1 : w13.cell? ⟨gb131, 1, none⟩ = some (.slice A0_1 l0_1.length c0_1) := bc BK131 1; have hfz14_0 := blk_frozen BK131.out 0; have hfz14_1 := blk_frozen BK131.out 1))
    go_ret
    exact ⟨by first | rfl | (simp [errW_none, errW_some] <;> rfl) | (simp [*, errW_none, errW_some] <;> rfl), by repeat (first | (with_reducible first | exact HB.out | apply below_alloc | apply pw_below_drewN | apply below_drew1 | refine below_set ?_ GE131.out) | exact HB.out)⟩

end Go.Proofs.Ytihfopblmjgfaaa.Q

namespace Go.Proofs.Ytihfopblmjgfaaa.Q
open Go.RowKit Go.Proofs.YtihfopblmjgfaaaW.PrintWords Go.Proofs.YtihfopblmjgfaaaW.PrintLast Go.Proofs.YtihfopblmjgfaaaW.PrintMore
attribute [local go_sem] max2_int min2_int max_two min_two max_three min_three max_four min_four   -- for this text's walks alone
set_option linter.unusedVariables false
set_option linter.unusedSimpArgs false

/-! ### waveletref29_get: function 51 -/
def waveletref29_get.l0 : Nat → List Int → Int → Int → Int → Int → Option (Int)
  | 0, _, _, _, _, _ => none
  | k + 1, x0, x1, x2, x7, x8 => if x8 < x2 then (if 0 ≤ (wrap64 (x1 + x8)) then (if (wrap64 (x1 + x8)) < (x0.length : Int) then (waveletref29_get.l0 k x0 x1 x2 (wrap64 ((wrap64 (256 * x7)) + (wrap64 (rd x0 (wrap64 (x1 + x8)))))) (wrap64 (x8 + 1))) else (none)) else (none)) else (some x7)
def waveletref29_get.f (k : Nat) (l0 : List Int) (a1 : Int) (a2 : Int) : Option (Int) := waveletref29_get.l0 k l0 a1 a2 0 0
theorem waveletref29_get.mono_l : ∀ k, (∀ y0 y1 y2 y3 y4, LeO (waveletref29_get.l0 k y0 y1 y2 y3 y4) (waveletref29_get.l0 (k + 1) y0 y1 y2 y3 y4))
  | 0 => fun _ _ _ _ _ r h => by simp [waveletref29_get.l0] at h
  | k + 1 => by
    have ih0 := waveletref29_get.mono_l k
    · intro y0 y1 y2 y3 y4
      unfold waveletref29_get.l0
      repeat' first
      | (with_reducible exact ih0 _ _ _ _ _)
      | (with_reducible exact LeO.refl _)
      | (with_reducible exact LeO.none _)
      | (with_reducible refine LeO.ite ?_ ?_)
      | (with_reducible refine LeO.bind ?_ (fun _ => ?_))
      | exact ih0 _ _ _ _ _
      | exact LeO.none _
      | refine LeO.ite ?_ ?_
      | refine LeO.bind ?_ (fun _ => ?_)
theorem waveletref29_get.mono : ∀ a0 a1 a2 k, LeO (waveletref29_get.f k a0 a1 a2) (waveletref29_get.f (k + 1) a0 a1 a2) := by
  intro a0 a1 a2 k
  have ih0 := waveletref29_get.mono_l k
  unfold waveletref29_get.f
  repeat' first
      | (with_reducible exact ih0 _ _ _ _ _)
      | (with_reducible exact LeO.refl _)
      | (with_reducible exact LeO.none _)
      | (with_reducible refine LeO.ite ?_ ?_)
      | (with_reducible refine LeO.bind ?_ (fun _ => ?_))
      | exact ih0 _ _ _ _ _
      | exact LeO.none _
      | refine LeO.ite ?_ ?_
      | refine LeO.bind ?_ (fun _ => ?_)
set_option maxHeartbeats 8000000 in
set_option maxRecDepth 100000 in
theorem waveletref29_get.calls (k : Nat) (A0 : Option Addr) (c0 : Nat) (l0 : List Int) (a1 : Int) (a2 : Int) (r : Int) (w : World) (hr0 : Kd.C (Kd.int .u8) w A0 l0.length l0) (hc0 : l0.length ≤ c0) (h : waveletref29_get.f k l0 a1 a2 = some r) :
    Calls Try.prog 51 #[.slice A0 l0.length c0, .int .i64 a1, .int .i64 a2] w fun e w' => e = .returned (.int .i64 r) ∧ Drawn0 w w' := by
  have HR0 := Aside0.mk hr0
  have HC0 := Aside0.mk hc0
  clear hr0 hc0
  have H : (waveletref29_get.l0 k l0 a1 a2 0 0) = some r := h
  clear h
  have H' := Aside0.mk H
  clear H
  go_enter Try.func51, Try.ntmps51
  go_wp2
  go_loopg [7, 8] k (fun kq v7 v8 w' => ∃ (x7_1 : Int) (x8_1 : Int), v7 = .int .i64 x7_1 ∧ v8 = .int .i64 x8_1 ∧ Aside0 (waveletref29_get.l0 kq l0 a1 a2 x7_1 x8_1 = some r) ∧ Aside0 (kq ≤ k) ∧ Drawn0 w w')
  case atStart => exact ⟨(0), (0), (by first | rfl | (simp; done) | (simp [*]; done)), (by first | rfl | (simp; done) | (simp [*]; done)), H', ⟨Nat.le_refl _⟩, by repeat (first | exact Drawn0.refl _ | apply Drawn0.step)⟩
  case round =>
    clear H'
    try clear p2
    obtain ⟨x7_1, x8_1, rfl, rfl, HA, HK1, ⟨m1, rfl⟩⟩ := hrel
    cases gk with
    | zero => exact absurd HA.out (by simp [waveletref29_get.l0])
    | succ k1 =>
      have H := HA.out
      clear HA
      simp only [waveletref29_get.l0] at H
      by_cases c4 : x8_1 < a2
      · rw [if_pos c4] at H
        have c4b0 : decide (x8_1 < a2) = true := decide_eq_true c4
        clear c4
        obtain ⟨ji5, hji5⟩ : ∃ j_ : Int, (wrap64 (a1 + x8_1)) = j_ := ⟨_, rfl⟩
        replace H : (if 0 ≤ (ji5) then (if (ji5) < (l0.length : Int) then (waveletref29_get.l0 k1 l0 a1 a2 (wrap64 ((wrap64 (256 * x7_1)) + (wrap64 (rd l0 (ji5))))) (wrap64 (x8_1 + 1))) else (none)) else (none)) = some r := by first | (rw [hji5] at H; exact H) | (simp only [hji5] at H ⊢; exact H)
        have hji5w : (IntKind.i64.wrap (a1 + x8_1)) = ji5 := (i64_w _).trans hji5
        by_cases c6 : 0 ≤ (ji5)
        · rw [if_pos c6] at H
          have c6b0 : decide (0 ≤ (ji5)) = true := decide_eq_true c6
          clear c6
          by_cases c7 : (ji5) < (l0.length : Int)
          · rw [if_pos c7] at H
            have c7b0 : decide ((ji5) < (l0.length : Int)) = true := decide_eq_true c7
            clear c7
            have H' := Aside0.mk H
            clear H
            have p132 : 0 ≤ ((ji5) : Int) := of_decide_eq_true (by first | (with_reducible assumption) | assumption)
            have q132 : (ji5) < (l0.length : Int) := of_decide_eq_true (by first | (with_reducible assumption) | assumption)
            obtain ⟨ad132, e132, hx132_0⟩ := Kd.at_int HR0.out (ji5) p132 q132
            cases e132
            replace p132 := eq_true p132
            replace q132 := eq_true q132
            go_wp2
            go_roundg k1
            case measure => have := HK1.out; omega
            case rel => exact ⟨(wrap64 ((wrap64 (256 * x7_1)) + (wrap64 (rd l0 (ji5))))), (wrap64 (x8_1 + 1)), (by first | rfl | (simp; done) | (simp only [← hji5] <;> (first | rfl | simp)) | (simp [*]; done)), (by first | rfl | (simp; done) | (simp [*]; done)), H', ⟨by have := HK1.out; omega⟩, by repeat (first | exact Drawn0.refl _ | apply Drawn0.step)⟩
          · rw [if_neg c7] at H
            exact absurd H (by simp)
        · rw [if_neg c6] at H
          exact absurd H (by simp)
      · rw [if_neg c4] at H
        have c4b0 : decide (x8_1 < a2) = false := decide_eq_false c4
        clear c4
        obtain rfl := Option.some.inj H
        go_wp2
        go_ret
        exact ⟨by first | rfl | (simp; done) | (simp [*]; done), by repeat (first | exact Drawn0.refl _ | apply Drawn0.step)⟩

end Go.Proofs.Ytihfopblmjgfaaa.Q

/- The reference's ParseQuant. Printed by wip/tools/genRQuant.py of this session. -/
namespace Go.Proofs.Ytihfopblmjgfaaa.Q
open Go.RowKit Go.Proofs.YtihfopblmjgfaaaW.PrintWords Go.Proofs.YtihfopblmjgfaaaW.PrintLast Go.Proofs.YtihfopblmjgfaaaW.PrintMore
set_option linter.unusedVariables false
set_option linter.unusedSimpArgs false
def rquantN (l : List Int) : Int := if (l.length : Int) ≥ 2 then wrap64 (2 + wrap64 (2 * wrap64 (rd l 1))) else 2
def rquantLoop : Nat → Int → Int → List Int → List Int → Option (List Int)
  | 0, _, _, _, _ => none
  | k + 1, n, i, l, xs => if i < n then (waveletref29_get.f k l i 2).bind fun v => (if xs.length < 17592186044415 then rquantLoop k n (wrap64 (i + 2)) l (xs ++ [wrap64 (v + 1)]) else none) else some xs
theorem rquantLoop.mono : ∀ k n i l xs, LeO (rquantLoop k n i l xs) (rquantLoop (k + 1) n i l xs)
  | 0, _, _, _, _ => LeO.none _
  | k + 1, n, i, l, xs => by
    rw [rquantLoop.eq_2, rquantLoop.eq_2]
    exact LeO.ite (LeO.bind (waveletref29_get.mono _ _ _ _) fun _ => LeO.ite (rquantLoop.mono _ _ _ _ _) (LeO.refl _)) (LeO.refl _)
theorem Bks.grown {n : Nat} {w0 W W' : World} {l : List (Nat × Nat × Array Value)} (h : Bks n w0 W l) {base : Nat} {ok : Nat → Prop} {v : Value} {xs : List Int} (hR : Kd.R (Kd.int .i64) 3 W base ok v xs) (hg : W.grownBy W' v.ownBlock) (hb : Below n w0 W') (ht : ∀ (i : Nat) (b : Nat × Nat × Array Value), l[i]? = some b → 3 ≠ b.2.1) : Bks n w0 W' l :=
  ⟨fun i b hi => blk_grown (h.blk i b hi) hg (Kd.R_ne hR (h.blk i b hi) (ht i b hi)), h.ne, h.ge, hb⟩

def waveletref29_ParseQuant.f (k : Nat) (a0_0 : Int) (l0_1 : List Int) (a1_0 : Int) (a1_1 : Int) (a1_2 : Int) (a1_3 : Int) (a1_4 : Int) (l1_5 : List (S89)) (a1_6 : Int) (a1_7 : Int) (a1_8 : Bool) (a1_9 : Bool) (a1_10 : Bool) (a1_11 : Bool) (a1_12 : Bool) (a1_13 : Bool) (a1_14 : Bool) (a1_15 : Bool) (l1_16 : List Int) (a1_17 : Int) (a1_18 : Int) : Option (Int × Int × Int × Int × Int × (List (S89)) × Int × Int × Bool × Bool × Bool × Bool × Bool × Bool × Bool × Bool × List Int × Int × Int × Int) :=
  (waveletref29_framed.f a0_0 l0_1 65443 (rquantN l0_1)).bind fun e => if e = 0 then (if l1_5.length < 8796093022208 then (if l1_16.length < 17592186044416 then (if 0 < (l0_1.length : Int) then (rquantLoop k (rquantN l0_1) 2 l0_1 []).bind fun xs => some (a1_0, a1_1, a1_2, a1_3, a1_4, l1_5, a1_6, a1_7, a1_8, a1_9, a1_10, a1_11, a1_12, a1_13, a1_14, a1_15, xs, wrap64 (rd l0_1 0), a1_18, 0) else none) else none) else none) else some (0, 0, 0, 0, 0, [], 0, 0, false, false, false, false, false, false, false, false, [], 0, 0, e)
theorem waveletref29_ParseQuant.mono : ∀ a0 a1 a2 a3 a4 a5 a6 a7 a8 a9 a10 a11 a12 a13 a14 a15 a16 a17 a18 a19 a20 k, LeO (waveletref29_ParseQuant.f k a0 a1 a2 a3 a4 a5 a6 a7 a8 a9 a10 a11 a12 a13 a14 a15 a16 a17 a18 a19 a20) (waveletref29_ParseQuant.f (k + 1) a0 a1 a2 a3 a4 a5 a6 a7 a8 a9 a10 a11 a12 a13 a14 a15 a16 a17 a18 a19 a20) := by
  intro a0 a1 a2 a3 a4 a5 a6 a7 a8 a9 a10 a11 a12 a13 a14 a15 a16 a17 a18 a19 a20 k
  exact LeO.bind (LeO.refl _) (fun _ => LeO.ite (LeO.ite (LeO.ite (LeO.ite (LeO.bind (rquantLoop.mono _ _ _ _ _) fun _ => LeO.refl _) (LeO.refl _)) (LeO.refl _)) (LeO.refl _)) (LeO.refl _))
set_option maxHeartbeats 8000000 in
set_option maxRecDepth 100000 in
theorem waveletref29_ParseQuant.calls (k : Nat) (a0_0 : Int) (A0_1 : Option Addr) (c0_1 : Nat) (l0_1 : List Int) (a1_0 : Int) (a1_1 : Int) (a1_2 : Int) (a1_3 : Int) (a1_4 : Int) (A1_5 : Option Addr) (c1_5 : Nat) (l1_5 : List (S89)) (a1_6 : Int) (a1_7 : Int) (a1_8 : Bool) (a1_9 : Bool) (a1_10 : Bool) (a1_11 : Bool) (a1_12 : Bool) (a1_13 : Bool) (a1_14 : Bool) (a1_15 : Bool) (A1_16 : Option Addr) (c1_16 : Nat) (l1_16 : List Int) (a1_17 : Int) (a1_18 : Int) (r1 : Int) (r2 : Int) (r3 : Int) (r4 : Int) (r5 : Int) (r6 : List (S89)) (r7 : Int) (r8 : Int) (r9 : Bool) (r10 : Bool) (r11 : Bool) (r12 : Bool) (r13 : Bool) (r14 : Bool) (r15 : Bool) (r16 : Bool) (r17 : List Int) (r18 : Int) (r19 : Int) (r20 : Int) (w : World) (hr0_1 : Kd.C (Kd.int .u8) w A0_1 l0_1.length l0_1) (hc0_1 : l0_1.length ≤ c0_1) (hr1_5 : Kd.C k89 w A1_5 l1_5.length l1_5) (hc1_5 : l1_5.length ≤ c1_5) (hr1_16 : Kd.C (Kd.int .i64) w A1_16 l1_16.length l1_16) (hc1_16 : l1_16.length ≤ c1_16) (h : waveletref29_ParseQuant.f k a0_0 l0_1 a1_0 a1_1 a1_2 a1_3 a1_4 l1_5 a1_6 a1_7 a1_8 a1_9 a1_10 a1_11 a1_12 a1_13 a1_14 a1_15 l1_16 a1_17 a1_18 = some (r1, r2, r3, r4, r5, r6, r7, r8, r9, r10, r11, r12, r13, r14, r15, r16, r17, r18, r19, r20)) :
    Calls Try.prog 31 #[.agg #[.int .i64 a0_0, .slice A0_1 l0_1.length c0_1], .agg #[.int .i64 a1_0, .int .i64 a1_1, .int .i64 a1_2, .int .i64 a1_3, .int .i64 a1_4, .slice A1_5 l1_5.length c1_5, .int .i64 a1_6, .int .i64 a1_7, .bool a1_8, .bool a1_9, .bool a1_10, .bool a1_11, .bool a1_12, .bool a1_13, .bool a1_14, .bool a1_15, .slice A1_16 l1_16.length c1_16, .int .i64 a1_17, .int .i64 a1_18]] w fun e w' => ∃ v5_ v16_ : Value, e = .returned (.tuple #[.agg #[.int .i64 r1, .int .i64 r2, .int .i64 r3, .int .i64 r4, .int .i64 r5, v5_, .int .i64 r7, .int .i64 r8, .bool r9, .bool r10, .bool r11, .bool r12, .bool r13, .bool r14, .bool r15, .bool r16, v16_, .int .i64 r18, .int .i64 r19], .int .i64 r20]) ∧ Kd.R k89 89 w' w.heap.size (fun _ => True) v5_ r6 ∧ Kd.R (Kd.int .i64) 3 w' w.heap.size (fun _ => True) v16_ r17 ∧ Below w.heap.size w w' := by
  unfold waveletref29_ParseQuant.f at h
  obtain ⟨er, hf, h⟩ := Option.bind_eq_some_iff.mp h
  have H := Aside0.mk h
  have HF := Aside0.mk hf
  have HR := Aside0.mk hr0_1
  have HC := Aside0.mk hc0_1
  have HR5 := Aside0.mk hr1_5
  have HR16 := Aside0.mk hr1_16
  have HC5 := Aside0.mk hc1_5
  have HC16 := Aside0.mk hc1_16
  clear h hf hr0_1 hc0_1 hr1_5 hr1_16 hc1_5 hc1_16
  have K00 := Aside0.mk (Bks.nil w)
  go_enter Try.func31, Try.ntmps31
  go_upto_if 14 with (first
    | ((with_reducible refine gate_dst (N := 2) rfl ?_); refine box_event ?hg (N := 2) ?hd (cs := #[.int .i64 a0_0, .slice A0_1 l0_1.length c0_1]) (t := 26) ?hr ?_; (case hd => rfl); (case hg => rfl); (case hr => first | (go_simp; done) | (go_simp; rfl)); intro g2 hg W2 hbox hb; have K0 := Aside0.mk (K00.out.box (Nat.le_refl _) hg hbox hb); clear hg hbox hb K00)
    | ((with_reducible refine gate_dst (N := 3) rfl ?_); refine box_event ?hg (N := 3) ?hd (cs := #[.int .i64 a1_0, .int .i64 a1_1, .int .i64 a1_2, .int .i64 a1_3, .int .i64 a1_4, .slice A1_5 l1_5.length c1_5, .int .i64 a1_6, .int .i64 a1_7, .bool a1_8, .bool a1_9, .bool a1_10, .bool a1_11, .bool a1_12, .bool a1_13, .bool a1_14, .bool a1_15, .slice A1_16 l1_16.length c1_16, .int .i64 a1_17, .int .i64 a1_18]) (t := 55) ?hr ?_; (case hd => rfl); (case hg => rfl); (case hr => first | (go_simp; done) | (go_simp; rfl)); intro g3 hg W3 hbox hb; have K1 := Aside0.mk (K0.out.box (below_size K0.out.below) hg hbox hb); clear hg hbox hb K0)
    | ((with_reducible refine gate_dst (N := 4) rfl ?_); refine box_event ?hg (N := 4) ?hd (cs := #[.int .i64 0, .int .i64 0, .int .i64 0, .int .i64 0, .int .i64 0, .slice none 0 0, .int .i64 0, .int .i64 0, .bool false, .bool false, .bool false, .bool false, .bool false, .bool false, .bool false, .bool false, .slice none 0 0, .int .i64 0, .int .i64 0]) (t := 55) ?hr ?_; (case hd => rfl); (case hg => rfl); (case hr => first | (go_simp; done) | (go_simp; rfl)); intro g4 hg W4 hbox hb; have K2 := Aside0.mk (K1.out.box (below_size K1.out.below) hg hbox hb); clear hg hbox hb K1; have hcz : W4.cell? ⟨g2, 1, none⟩ = some (.slice A0_1 l0_1.length c0_1) := K2.out.cell 2 rfl 1 rfl))
  (try simp only [Act.put, List.setIfInBounds_toArray, List.set_cons_zero, List.set_cons_succ])
  go_cut [6] (fun v6 wc => v6 = .int .i64 (rquantN l0_1) ∧ Aside0 (Bks w.heap.size w wc [(g4, 55, #[.int .i64 0, .int .i64 0, .int .i64 0, .int .i64 0, .int .i64 0, .slice none 0 0, .int .i64 0, .int .i64 0, .bool false, .bool false, .bool false, .bool false, .bool false, .bool false, .bool false, .bool false, .slice none 0 0, .int .i64 0, .int .i64 0]), (g3, 55, #[.int .i64 a1_0, .int .i64 a1_1, .int .i64 a1_2, .int .i64 a1_3, .int .i64 a1_4, .slice A1_5 l1_5.length c1_5, .int .i64 a1_6, .int .i64 a1_7, .bool a1_8, .bool a1_9, .bool a1_10, .bool a1_11, .bool a1_12, .bool a1_13, .bool a1_14, .bool a1_15, .slice A1_16 l1_16.length c1_16, .int .i64 a1_17, .int .i64 a1_18]), (g2, 26, #[.int .i64 a0_0, .slice A0_1 l0_1.length c0_1])]))
  case first =>
    by_cases c10 : (l0_1.length : Int) ≥ 2
    · have hN : rquantN l0_1 = wrap64 (2 + wrap64 (2 * wrap64 (rd l0_1 1))) := if_pos c10
      have c10b0 : decide (2 ≤ (l0_1.length : Int)) = true := decide_eq_true c10
      have c10b1 : decide (2 ≤ l0_1.length) = true := decide_eq_true (by omega)
      (first | rw [c10b0] | (simp only [i64_w, i32_w]; rw [c10b0]) | skip)
      have p473 : 0 ≤ (1 : Int) := by omega
      have q473 : 1 < (l0_1.length : Int) := by omega
      obtain ⟨ad473, e473, hx473_0⟩ := Kd.at_int (Kd.C_below HR.out K2.out.below) 1 p473 q473
      cases e473
      (try simp only [show (1 : Int).toNat = 1 from rfl, Nat.reduceMul, Nat.reduceEqDiff, Go.Addr.add, ↓reduceIte] at hx473_0)
      have qi473 : (1 < l0_1.length) = True := eq_true (by omega)
      replace p473 := eq_true p473
      replace q473 := eq_true q473
      go_wp2
      go_meet
      case rel => exact ⟨by rw [hN], K2⟩
    · have hN : rquantN l0_1 = 2 := if_neg c10
      have c10b0 : decide (2 ≤ (l0_1.length : Int)) = false := decide_eq_false c10
      have c10b1 : decide (2 ≤ l0_1.length) = false := decide_eq_false (by omega)
      (first | rw [c10b0] | (simp only [i64_w, i32_w]; rw [c10b0]) | skip)
      go_wp2
      go_meet
      case rel => exact ⟨by rw [hN], K2⟩
  case rest =>
    clear K2 hcz
    obtain ⟨rfl, K2⟩ := hcut
    go_wp2_with (first | ((with_reducible refine gate_dst (N := 23) rfl ?_); refine load_ev rfl 26 (.tmp 2) rfl rfl (K2.out.get 2 rfl) Try.underlying26 rfl ?_) | (go_at_call 50; fail))
    refine (waveletref29_framed.calls a0_0 A0_1 c0_1 l0_1 65443 (rquantN l0_1) er _ (Kd.C_below HR.out K2.out.below) HC.out HF.out).mono ?_
    rintro _ w3 ⟨rfl, b3⟩
    have K3 := Aside0.mk (K2.out.call (below_size K2.out.below) b3)
    clear K2 b3 HF
    have h := H.out
    clear H
    by_cases he : er = 0
    rotate_left
    · rw [if_neg he] at h
      simp only [Option.some.injEq, Prod.mk.injEq] at h
      obtain ⟨rfl, rfl, rfl, rfl, rfl, rfl, rfl, rfl, rfl, rfl, rfl, rfl, rfl, rfl, rfl, rfl, rfl, rfl, rfl, rfl⟩ := h
      have hy0 : (er == 0) = false := by simpa using he
      have hy' : (er != 0) = true := by simpa using he
      go_wp2_with (refine store_ev rfl rfl 55 (.tmp 4) (.tmp 28) rfl rfl rfl (K3.out.get 0 rfl) rfl rfl (by first | (kernel_rfl) | (simp [Value.oneCell'])) ?_; intro W8 hs; have K4 := Aside0.mk (K3.out.stored 0 rfl hs); clear hs)
      refine bodyPost_ret (results_ct rfl _ _ g4 55 _ (0, 0) _ rfl (K4.out.get 0 rfl) Try.underlying55 rfl (by kernel_rfl)) rfl ?_
      exact ⟨_, _, rfl, Kd.R_nil k89 89 _ _ _, Kd.R_nil (Kd.int .i64) 3 _ _ _, K4.out.below⟩
    subst he
    rw [if_pos rfl] at h
    simp only [Option.ite_none_right_eq_some] at h
    obtain ⟨lm5, lm16, lp, h⟩ := h
    obtain ⟨xs, hx, h⟩ := Option.bind_eq_some_iff.mp h
    simp only [Option.some.injEq, Prod.mk.injEq] at h
    obtain ⟨rfl, rfl, rfl, rfl, rfl, rfl, rfl, rfl, rfl, rfl, rfl, rfl, rfl, rfl, rfl, rfl, rfl, rfl, rfl, rfl⟩ := h
    have HX := Aside0.mk hx
    have LM := Aside0.mk (And.intro lm5 lm16)
    clear hx lm5 lm16
    obtain ⟨ad, e0, -⟩ := Kd.at_int HR.out 0 (by omega) lp
    subst e0
    go_wp2_with (first | ((with_reducible refine gate_dst (N := 32) rfl ?_); refine load_ev rfl 55 (.tmp 3) rfl rfl (K3.out.get 1 rfl) Try.underlying55 rfl ?_) | (go_at_call 55; fail))
    refine (waveletref23_Clone.calls 0 0 0 0 0 0 none 0 [] a1_0 a1_1 a1_2 a1_3 a1_4 A1_5 c1_5 l1_5 a1_6 a1_7 a1_8 a1_9 a1_10 a1_11 a1_12 a1_13 a1_14 a1_15 A1_16 c1_16 l1_16 a1_17 a1_18 0 0 0 0 0 0 [] a1_0 a1_1 a1_2 a1_3 a1_4 l1_5 a1_6 a1_7 a1_8 a1_9 a1_10 a1_11 a1_12 a1_13 a1_14 a1_15 l1_16 a1_17 a1_18 _ (Kd.C_nil _ _) (Nat.le_refl _) (Kd.C_below HR5.out K3.out.below) HC5.out (Kd.C_below HR16.out K3.out.below) HC16.out (by simp only [waveletref23_Clone.f, Option.bind_some, List.length_nil, Nat.zero_add, List.nil_append, LM.out.1, LM.out.2, if_true]; rfl)).mono ?_
    rintro _ w4 ⟨v6, v5, v16, rfl, r6, r5, r16, b4⟩
    obtain ⟨Ao6, co6, rfl⟩ := Kd.R_slice r6
    obtain ⟨Ao5, co5, rfl⟩ := Kd.R_slice r5
    obtain ⟨Ao16, co16, rfl⟩ := Kd.R_slice r16
    have K4 := Aside0.mk (K3.out.call (below_size K3.out.below) b4)
    have R5 := Aside0.mk (Kd.R_lower r5 (below_size K3.out.below))
    clear K3 r5 r6 r16 b4
    have p473 : 0 ≤ (0 : Int) := by omega
    have q473 : 0 < (l0_1.length : Int) := lp
    have qi473 : (0 < l0_1.length) = True := eq_true (by omega)
    go_wp2_with (first
      | ((with_reducible refine gate_dst (N := 8) rfl ?_); refine box_event ?hg (N := 8) ?hd (cs := #[.int .i64 0, .int .i64 0, .int .i64 0, .int .i64 0, .int .i64 0, .int .i64 0, .slice none 0 0]) (t := 67) ?hr ?_; (case hd => rfl); (case hg => rfl); (case hr => first | (go_simp; done) | (go_simp; rfl)); intro g8 hg W8 hbox hb; have K5 := Aside0.mk (K4.out.box (below_size K4.out.below) hg hbox hb); have R5a := Aside0.mk (Kd.R_below R5.out hb); clear hg hbox hb K4 R5)
      | ((with_reducible refine gate_dst (N := 9) rfl ?_); refine box_event ?hg (N := 9) ?hd (cs := #[.int .i64 0, .int .i64 0, .int .i64 0, .int .i64 0, .int .i64 0, .slice none 0 0, .int .i64 0, .int .i64 0, .bool false, .bool false, .bool false, .bool false, .bool false, .bool false, .bool false, .bool false, .slice none 0 0, .int .i64 0, .int .i64 0]) (t := 55) ?hr ?_; (case hd => rfl); (case hg => rfl); (case hr => first | (go_simp; done) | (go_simp; rfl)); intro g9 hg W9 hbox hb; have K6 := Aside0.mk (K5.out.box (below_size K5.out.below) hg hbox hb); have R5b := Aside0.mk (Kd.R_below R5a.out hb); clear hg hbox hb K5 R5a)
      | (refine store_ev rfl rfl 67 (.tmp 8) (.tmp 34) rfl rfl rfl (K6.out.get 1 rfl) rfl rfl (by first | (kernel_rfl) | (simp [Value.oneCell'])) ?_; intro W10 hs; have K7 := Aside0.mk (K6.out.stored 1 rfl hs); have R5c := Aside0.mk (row_stored R5b.out (K6.out.get 1 rfl) (by decide) hs); clear hs K6 R5b)
      | (refine store_ev rfl rfl 55 (.tmp 9) (.tmp 35) rfl rfl rfl (K7.out.get 0 rfl) rfl rfl (by first | (kernel_rfl) | (simp [Value.oneCell'])) ?_; intro W11 hs; have K8 := Aside0.mk (K7.out.stored 0 rfl hs); have R5d := Aside0.mk (row_stored R5c.out (K7.out.get 0 rfl) (by decide) hs); clear hs K7 R5c; have hcz : W11.cell? ⟨g2, 1, none⟩ = some (.slice (some ad) l0_1.length c0_1) := K8.out.cell 4 rfl 1 rfl; obtain ⟨ad', e0, hx0⟩ := Kd.at_int (Kd.C_below HR.out K8.out.below) 0 p473 q473; cases e0; (try simp only [show (0 : Int).toNat = 0 from rfl, Nat.reduceMul, Nat.reduceEqDiff, Go.Addr.add, Nat.add_zero, ↓reduceIte] at hx0); have h17 : W11.cell? ⟨g9, 17, none⟩ = some (.int .i64 a1_17) := K8.out.cell 0 rfl 17 rfl; have z17 := blk_frozen (K8.out.get 0 rfl) 17; have h16 : W11.cell? ⟨g9, 16, none⟩ = some (.slice Ao16 l1_16.length co16) := K8.out.cell 0 rfl 16 rfl; have z16 := blk_frozen (K8.out.get 0 rfl) 16))
    have K9 := Aside0.mk ((K8.out.set 0 rfl 17 (.int .i64 (wrap64 (rd l0_1 0))) (cs' := #[.int .i64 a1_0, .int .i64 a1_1, .int .i64 a1_2, .int .i64 a1_3, .int .i64 a1_4, .slice Ao5 l1_5.length co5, .int .i64 a1_6, .int .i64 a1_7, .bool a1_8, .bool a1_9, .bool a1_10, .bool a1_11, .bool a1_12, .bool a1_13, .bool a1_14, .bool a1_15, .slice Ao16 l1_16.length co16, .int .i64 (wrap64 (rd l0_1 0)), .int .i64 a1_18]) rfl).set 0 rfl 16 (.slice none 0 0) (cs' := #[.int .i64 a1_0, .int .i64 a1_1, .int .i64 a1_2, .int .i64 a1_3, .int .i64 a1_4, .slice Ao5 l1_5.length co5, .int .i64 a1_6, .int .i64 a1_7, .bool a1_8, .bool a1_9, .bool a1_10, .bool a1_11, .bool a1_12, .bool a1_13, .bool a1_14, .bool a1_15, .slice none 0 0, .int .i64 (wrap64 (rd l0_1 0)), .int .i64 a1_18]) rfl)
    have R5e := Aside0.mk (row_set (row_set R5d.out (K8.out.get 0 rfl) (by decide) 17 (.int .i64 (wrap64 (rd l0_1 0)))) ((K8.out.set 0 rfl 17 (.int .i64 (wrap64 (rd l0_1 0))) (cs' := #[.int .i64 a1_0, .int .i64 a1_1, .int .i64 a1_2, .int .i64 a1_3, .int .i64 a1_4, .slice Ao5 l1_5.length co5, .int .i64 a1_6, .int .i64 a1_7, .bool a1_8, .bool a1_9, .bool a1_10, .bool a1_11, .bool a1_12, .bool a1_13, .bool a1_14, .bool a1_15, .slice Ao16 l1_16.length co16, .int .i64 (wrap64 (rd l0_1 0)), .int .i64 a1_18]) rfl).get 0 rfl) (by decide) 16 (.slice none 0 0))
    clear K8 R5d hcz hx0 h17 z17 h16 z16
    generalize (W11.setCell ⟨g9, 17, none⟩ (.int .i64 (wrap64 (rd l0_1 0)))).setCell ⟨g9, 16, none⟩ (.slice none 0 0) = W12 at *
    have HR0 := Aside0.mk (Kd.R_nil (Kd.int .i64) 3 W12 w.heap.size (fun _ => True))
    go_loopg [10] k (fun kq v10 w' => ∃ (i : Int) (ys : List Int) (v : Value), v10 = .int .i64 i ∧ Aside0 (rquantLoop kq (rquantN l0_1) i l0_1 ys = some xs) ∧ Aside0 (Bks w.heap.size w w' [(g9, 55, #[.int .i64 a1_0, .int .i64 a1_1, .int .i64 a1_2, .int .i64 a1_3, .int .i64 a1_4, .slice Ao5 l1_5.length co5, .int .i64 a1_6, .int .i64 a1_7, .bool a1_8, .bool a1_9, .bool a1_10, .bool a1_11, .bool a1_12, .bool a1_13, .bool a1_14, .bool a1_15, v, .int .i64 (wrap64 (rd l0_1 0)), .int .i64 a1_18]), (g8, 67, #[.int .i64 0, .int .i64 0, .int .i64 0, .int .i64 0, .int .i64 0, .int .i64 0, .slice Ao6 0 co6]), (g4, 55, #[.int .i64 0, .int .i64 0, .int .i64 0, .int .i64 0, .int .i64 0, .slice none 0 0, .int .i64 0, .int .i64 0, .bool false, .bool false, .bool false, .bool false, .bool false, .bool false, .bool false, .bool false, .slice none 0 0, .int .i64 0, .int .i64 0]), (g3, 55, #[.int .i64 a1_0, .int .i64 a1_1, .int .i64 a1_2, .int .i64 a1_3, .int .i64 a1_4, .slice A1_5 l1_5.length c1_5, .int .i64 a1_6, .int .i64 a1_7, .bool a1_8, .bool a1_9, .bool a1_10, .bool a1_11, .bool a1_12, .bool a1_13, .bool a1_14, .bool a1_15, .slice A1_16 l1_16.length c1_16, .int .i64 a1_17, .int .i64 a1_18]), (g2, 26, #[.int .i64 a0_0, .slice (some ad) l0_1.length c0_1])]) ∧ Aside0 (Kd.R k89 89 w' w.heap.size (fun _ => True) (.slice Ao5 l1_5.length co5) l1_5) ∧ Aside0 (Kd.R (Kd.int .i64) 3 w' w.heap.size (fun _ => True) v ys))
    case atStart => exact ⟨2, [], _, rfl, HX, K9, R5e, HR0⟩
    case round =>
    clear HX K9 R5e HR0
    obtain ⟨i, ys, v, rfl, HS, K, R5, HRs⟩ := hrel
    obtain ⟨A0, c0, rfl⟩ := Kd.R_slice HRs.out
    cases gk with
    | zero => exact absurd HS.out (by simp [rquantLoop])
    | succ kk =>
    have hs := HS.out
    clear HS
    rw [rquantLoop.eq_2] at hs
    by_cases hn : i < rquantN l0_1
    rotate_left
    · rw [if_neg hn] at hs
      have hn0 : decide (i < rquantN l0_1) = false := decide_eq_false hn
      obtain rfl : ys = xs := Option.some.inj hs
      clear hs
      go_wp2_with (first
        | ((with_reducible refine gate_dst (N := 58) rfl ?_); refine load_ev rfl 55 (.tmp 9) rfl rfl (K.out.get 0 rfl) Try.underlying55 rfl ?_)
        | (refine store_ev rfl rfl 55 (.tmp 4) (.tmp 58) rfl rfl rfl (K.out.get 2 rfl) rfl rfl (by first | (kernel_rfl) | (simp [Value.oneCell'])) ?_; intro W13 hs; have Kz := Aside0.mk (K.out.stored 2 rfl hs); have R5z := Aside0.mk (row_stored R5.out (K.out.get 2 rfl) (by decide) hs); have HRz := Aside0.mk (row_stored HRs.out (K.out.get 2 rfl) (by decide) hs); clear hs))
      refine bodyPost_ret (results_ct rfl _ _ g4 55 _ (0, 0) _ rfl (Kz.out.get 2 rfl) Try.underlying55 rfl (by kernel_rfl)) rfl ?_
      exact ⟨_, _, rfl, R5z.out, HRz.out, Kz.out.below⟩
    rw [if_pos hn] at hs
    have hn1 : decide (i < rquantN l0_1) = true := decide_eq_true hn
    obtain ⟨x, hget, hs⟩ := Option.bind_eq_some_iff.mp hs
    simp only [Option.ite_none_right_eq_some] at hs
    obtain ⟨hlim, hs⟩ := hs
    have HS := Aside0.mk hs
    have HG := Aside0.mk hget
    have HLIM := Aside0.mk hlim
    clear hs hget hlim
    go_wp2
    have K1 := Aside0.mk K.out.drew
    have R51 := Aside0.mk (Kd.R_drew R5.out)
    have HR1 := Aside0.mk (Kd.R_drew HRs.out)
    clear K R5 HRs
    refine start_ (n := 11) (S := fun w' => w'.cell? ⟨g9, 16, none⟩ = some (.slice A0 ys.length c0) ∧ w'.cell? ⟨g2, 1, none⟩ = some (.slice (some ad) l0_1.length c0_1)) (ds := [10]) #[false, false, false, false, false, false, false, false, false, false, false] (by kernel_rfl) rfl rfl ⟨K1.out.cell 0 rfl 16 rfl, K1.out.cell 4 rfl 1 rfl⟩ (fun hHeld => ?_)
    generalize wr.drew = w5 at *
    refine pure_ (i := 0) (N := some 48) (v := ?_) (a' := ?_) #[true, false, false, false, false, false, false, false, false, false, false] rfl rfl (by kernel_rfl) (fun _ _ _ h => h) (Or.inl ⟨by rfl, ?_⟩) ?_ ?_
    rotate_left
    · intro w'
      go_simp
      with_reducible rfl
    rotate_left
    · simp only [Act.put, List.setIfInBounds_toArray, List.set_cons_zero, List.set_cons_succ, i64_w, i32_w]
      rfl
    refine pure_ (i := 2) (N := some 50) (v := ?_) (a' := ?_) #[true, false, true, false, false, false, false, false, false, false, false] rfl rfl (by kernel_rfl) (fun _ _ _ h => h) (Or.inl ⟨by rfl, ?_⟩) ?_ ?_
    rotate_left
    · intro w'
      go_simp
      with_reducible rfl
    rotate_left
    · simp only [Act.put, List.setIfInBounds_toArray, List.set_cons_zero, List.set_cons_succ, i64_w, i32_w]
      rfl
    refine pure_ (i := 4) (N := some 52) (v := ?_) (a' := ?_) #[true, false, true, false, true, false, false, false, false, false, false] rfl rfl (by kernel_rfl) (fun _ _ _ h => h) (Or.inl ⟨by rfl, ?_⟩) ?_ ?_
    rotate_left
    · intro w'
      go_simp
      with_reducible rfl
    rotate_left
    · simp only [Act.put, List.setIfInBounds_toArray, List.set_cons_zero, List.set_cons_succ, i64_w, i32_w]
      rfl
    refine take_ (i := 1) (N := some 49) (v := ?_) (a' := ?_) #[true, true, true, false, true, false, false, false, false, false, false] rfl rfl (by kernel_rfl) (fun _ _ _ h => h) (Or.inl ⟨by rfl, ?_⟩) hHeld ?_ ?_
    rotate_left
    · rintro w' ⟨s0, s1⟩
      go_simp
      with_reducible rfl
    rotate_left
    · simp only [Act.put, List.setIfInBounds_toArray, List.set_cons_zero, List.set_cons_succ, i64_w, i32_w]
      rfl
    refine take_ (i := 3) (N := some 51) (v := ?_) (a' := ?_) #[true, true, true, true, true, false, false, false, false, false, false] rfl rfl (by kernel_rfl) (fun _ _ _ h => h) (Or.inl ⟨by rfl, ?_⟩) hHeld ?_ ?_
    rotate_left
    · rintro w' ⟨s0, s1⟩
      go_simp
      with_reducible rfl
    rotate_left
    · simp only [Act.put, List.setIfInBounds_toArray, List.set_cons_zero, List.set_cons_succ, i64_w, i32_w]
      rfl
    refine one_ (i := 5) (N := some 53) #[true, true, true, true, true, true, false, false, false, false, false] rfl rfl (by kernel_rfl) (by decide) (fun K hK => ?_)
    refine goes_ Try.func51 (by kernel_rfl) rfl #[.slice (some ad) l0_1.length c0_1, .int .i64 i, .int .i64 2] (by rfl) rfl rfl (by simp only [List.map_toArray, List.map_cons, List.map_nil]; rfl) ?_
    refine (waveletref29_get.calls kk _ _ l0_1 i 2 x _ (Kd.C_below HR.out K1.out.below) HC.out HG.out).mono ?_
    rintro _ w6 ⟨rfl, hd⟩
    refine ⟨_, rfl, ?_⟩
    have K2 := Aside0.mk (K1.out.call (below_size K1.out.below) hd.below)
    have R52 := Aside0.mk (Kd.R_below R51.out hd.below)
    have HR2 := Aside0.mk (Kd.R_below HR1.out hd.below)
    clear K1 R51 HR1 hd hHeld
    refine hK.out _ _ ⟨K2.out.cell 0 rfl 16 rfl, K2.out.cell 4 rfl 1 rfl⟩ (fun hHeld => ?_)
    clear hK K
    refine norm_ (a' := ?_) ?_ ?_
    rotate_left
    · show Act.put _ (some 53) _ = _
      simp only [Act.put, List.setIfInBounds_toArray, List.set_cons_zero, List.set_cons_succ, i64_w, i32_w]
      rfl
    refine pure_ (i := 6) (N := some 54) (v := ?_) (a' := ?_) #[true, true, true, true, true, true, true, false, false, false, false] rfl rfl (by kernel_rfl) (fun _ _ _ h => h) (Or.inl ⟨by rfl, ?_⟩) ?_ ?_
    rotate_left
    · intro w'
      go_simp
      with_reducible rfl
    rotate_left
    · simp only [Act.put, List.setIfInBounds_toArray, List.set_cons_zero, List.set_cons_succ, i64_w, i32_w]
      rfl
    refine one_ (i := 7) (N := some 55) #[true, true, true, true, true, true, true, true, false, false, false] rfl rfl (by kernel_rfl) (by decide) (fun K hK => ?_)
    refine value_ (w1 := ?_) (v := ?_) (by rfl) rfl ?_ ?_
    rotate_left 2
    · go_simp
      constructor
      · rfl
      · rfl
    refine hK.out _ _ ⟨(blk_cell (blk_alloc (K2.out.get 0 rfl) _) 16).trans rfl, (blk_cell (blk_alloc (K2.out.get 4 rfl) _) 1).trans rfl⟩ (fun hHeld => ?_)
    clear hK K
    refine norm_ (a' := ?_) ?_ ?_
    rotate_left
    · show Act.put _ (some 55) _ = _
      simp only [Act.put, List.setIfInBounds_toArray, List.set_cons_zero, List.set_cons_succ, i64_w, i32_w]
      rfl
    refine one_ (i := 8) (N := some 56) #[true, true, true, true, true, true, true, true, true, false, false] rfl rfl (by kernel_rfl) (by decide) (fun K hK => ?_)
    refine Kd.R_append_step (Kd.int .i64) (w0 := w) w.heap.size (by rfl) (.tmp 49) (.tmp 55) 39 3 (.int .i64 0) 8 rfl Try.underlying39 info3 rfl (by decide) (by omega) (.slice A0 ys.length c0) ys (wrap64 (x + 1)) [.int .i64 (wrap64 (x + 1))] (fun _ => True) (fun _ => False) rfl rfl ?aP (fun _ hk => hk.elim) ?aF ?aO ?aB ?aS ?aL ?_
    (case aP => exact rfl)
    (case aF => exact fun k hk => trivial)
    (case aO => exact HR2.out)
    (case aB => exact K2.out.below)
    (case aS => exact below_size K2.out.below)
    (case aL => have := HLIM.out; omega)
    intro v2 w7 ho hb hg hat
    obtain ⟨A2, c2, rfl⟩ := Kd.R_slice ho
    have K3 := Aside0.mk (K2.out.grown HR2.out hg hb (fun j b hj => by
      match j, hj with
      | 0, hj | 1, hj | 2, hj | 3, hj | 4, hj => cases hj; first | exact (by decide : (3 : Nat) ≠ 55) | exact (by decide : (3 : Nat) ≠ 67) | exact (by decide : (3 : Nat) ≠ 26)
      | j + 5, hj => simp at hj))
    have R53 := Aside0.mk (Kd.R_over' R52.out (Kd.R_typed HR2.out) (by decide) hg)
    have HR3 := Aside0.mk ho
    clear K2 R52 HR2 ho hb hg hat hHeld
    refine hK.out _ _ ⟨K3.out.cell 0 rfl 16 rfl, K3.out.cell 4 rfl 1 rfl⟩ (fun hHeld => ?_)
    clear hK K
    refine norm_ (a' := ?_) ?_ ?_
    rotate_left
    · show Act.put _ (some 56) _ = _
      simp only [Act.put, List.setIfInBounds_toArray, List.set_cons_zero, List.set_cons_succ, i64_w, i32_w]
      rfl
    refine pure_ (i := 9) (N := some 57) (v := ?_) (a' := ?_) #[true, true, true, true, true, true, true, true, true, true, false] rfl rfl (by kernel_rfl) (fun _ _ _ h => h) (Or.inl ⟨by rfl, ?_⟩) ?_ ?_
    rotate_left
    · intro w'
      go_simp
      with_reducible rfl
    rotate_left
    · simp only [Act.put, List.setIfInBounds_toArray, List.set_cons_zero, List.set_cons_succ, i64_w, i32_w]
      rfl
    refine last_ (i := 10) (N := none) #[true, true, true, true, true, true, true, true, true, true, true] rfl rfl (by kernel_rfl) (by decide) (fun K hK => ?_)
    have hst : w7.cell? ⟨g9, 16, none⟩ = some (.slice A0 ys.length c0) := K3.out.cell 0 rfl 16 rfl
    have hfs := blk_frozen (K3.out.get 0 rfl) 16
    refine skip_ (w1 := ?_) (by rfl) rfl ?_ ?_
    rotate_left
    · go_simp
      rfl
    refine hK.out _ _ ?_
    clear hK K
    refine done_ (by kernel_rfl) ?_
    clear hHeld hfs hst
    go_wp2
    go_roundg kk
    case measure => omega
    case rel => exact ⟨_, ys ++ [wrap64 (x + 1)], _, rfl, HS, ⟨K3.out.set 0 rfl 16 _ rfl⟩, ⟨row_set R53.out (K3.out.get 0 rfl) (by decide) 16 _⟩, ⟨by have h6 := row_set HR3.out (K3.out.get 0 rfl) (by decide) 16 (.slice A2 (ys.length + 1) c2); simpa using h6⟩⟩
end Go.Proofs.Ytihfopblmjgfaaa.Q

/- The reference's SameParams, of two that are alike. Printed by wip/tools/genSame.py of this session. -/
namespace Go.Proofs.Ytihfopblmjgfaaa.Q
open Go.RowKit Go.Proofs.YtihfopblmjgfaaaW.PrintWords Go.Proofs.YtihfopblmjgfaaaW.PrintLast Go.Proofs.YtihfopblmjgfaaaW.PrintMore
set_option linter.unusedVariables false
set_option linter.unusedSimpArgs false
theorem Bks.drewN {n : Nat} {w0 W : World} {l : List (Nat × Nat × Array Value)} (h : Bks n w0 W l) (m : Nat) : Bks n w0 (W.drewN m) l := ⟨h.blk, h.ne, h.ge, pw_below_drewN h.below m⟩

set_option maxHeartbeats 8000000 in
set_option maxRecDepth 100000 in
theorem waveletref23_SameParams.same (a_0 : Int) (a_1 : Int) (a_2 : Int) (a_3 : Int) (a_4 : Int) (l_5 : List S89) (a_6 : Int) (a_7 : Int) (a_8 : Bool) (a_9 : Bool) (a_10 : Bool) (a_11 : Bool) (a_12 : Bool) (a_13 : Bool) (a_14 : Bool) (a_15 : Bool) (l_16 : List Int) (a_17 : Int) (a_18 : Int) (A0_5 : Option Addr) (c0_5 : Nat) (A0_16 : Option Addr) (c0_16 : Nat) (A1_5 : Option Addr) (c1_5 : Nat) (A1_16 : Option Addr) (c1_16 : Nat) (w : World) (hr0_5 : Kd.C k89 w A0_5 l_5.length l_5) (hr0_16 : Kd.C (Kd.int .i64) w A0_16 l_16.length l_16) (hr1_5 : Kd.C k89 w A1_5 l_5.length l_5) (hr1_16 : Kd.C (Kd.int .i64) w A1_16 l_16.length l_16) :
    Calls Try.prog 32 #[.agg #[.int .i64 a_0, .int .i64 a_1, .int .i64 a_2, .int .i64 a_3, .int .i64 a_4, .slice A0_5 l_5.length c0_5, .int .i64 a_6, .int .i64 a_7, .bool a_8, .bool a_9, .bool a_10, .bool a_11, .bool a_12, .bool a_13, .bool a_14, .bool a_15, .slice A0_16 l_16.length c0_16, .int .i64 a_17, .int .i64 a_18], .agg #[.int .i64 a_0, .int .i64 a_1, .int .i64 a_2, .int .i64 a_3, .int .i64 a_4, .slice A1_5 l_5.length c1_5, .int .i64 a_6, .int .i64 a_7, .bool a_8, .bool a_9, .bool a_10, .bool a_11, .bool a_12, .bool a_13, .bool a_14, .bool a_15, .slice A1_16 l_16.length c1_16, .int .i64 a_17, .int .i64 a_18]] w fun e w' => e = .returned (.bool true) ∧ Below w.heap.size w w' := by
  have HR05 := Aside0.mk hr0_5
  have HR016 := Aside0.mk hr0_16
  have HR15 := Aside0.mk hr1_5
  have HR116 := Aside0.mk hr1_16
  have hl5 : l_5.length ≤ 9223372036854775807 := hr0_5.2.1
  have hl16 : l_16.length ≤ 9223372036854775807 := hr0_16.2.1
  have HL := Aside0.mk (And.intro hl5 hl16)
  clear hr0_5 hr0_16 hr1_5 hr1_16 hl5 hl16
  have K00 := Aside0.mk (Bks.nil w)
  have hu89 := Try.underlying89
  go_enter Try.func32, Try.ntmps32
  go_wp2_with (first
    | ((with_reducible refine gate_dst (N := 2) rfl ?_); refine box_event ?hg (N := 2) ?hd (cs := #[.int .i64 a_0, .int .i64 a_1, .int .i64 a_2, .int .i64 a_3, .int .i64 a_4, .slice A0_5 l_5.length c0_5, .int .i64 a_6, .int .i64 a_7, .bool a_8, .bool a_9, .bool a_10, .bool a_11, .bool a_12, .bool a_13, .bool a_14, .bool a_15, .slice A0_16 l_16.length c0_16, .int .i64 a_17, .int .i64 a_18]) (t := 55) ?hr ?_; (case hd => rfl); (case hg => rfl); (case hr => first | (go_simp; done) | (go_simp; rfl)); intro g2 hg W2 hbox hb; have K0 := Aside0.mk (K00.out.box (Nat.le_refl _) hg hbox hb); clear hg hbox hb K00)
    | ((with_reducible refine gate_dst (N := 3) rfl ?_); refine box_event ?hg (N := 3) ?hd (cs := #[.int .i64 a_0, .int .i64 a_1, .int .i64 a_2, .int .i64 a_3, .int .i64 a_4, .slice A1_5 l_5.length c1_5, .int .i64 a_6, .int .i64 a_7, .bool a_8, .bool a_9, .bool a_10, .bool a_11, .bool a_12, .bool a_13, .bool a_14, .bool a_15, .slice A1_16 l_16.length c1_16, .int .i64 a_17, .int .i64 a_18]) (t := 55) ?hr ?_; (case hd => rfl); (case hg => rfl); (case hr => first | (go_simp; done) | (go_simp; rfl)); intro g3 hg W3 hbox hb; have K1 := Aside0.mk (K0.out.box (below_size K0.out.below) hg hbox hb); clear hg hbox hb K0; have f0_0 : W3.cell? ⟨g2, 0, none⟩ = some (.int .i64 a_0) := K1.out.cell 1 rfl 0 rfl; have f0_1 : W3.cell? ⟨g2, 1, none⟩ = some (.int .i64 a_1) := K1.out.cell 1 rfl 1 rfl; have f0_2 : W3.cell? ⟨g2, 2, none⟩ = some (.int .i64 a_2) := K1.out.cell 1 rfl 2 rfl; have f0_3 : W3.cell? ⟨g2, 3, none⟩ = some (.int .i64 a_3) := K1.out.cell 1 rfl 3 rfl; have f0_4 : W3.cell? ⟨g2, 4, none⟩ = some (.int .i64 a_4) := K1.out.cell 1 rfl 4 rfl; have f0_5 : W3.cell? ⟨g2, 5, none⟩ = some (.slice A0_5 l_5.length c0_5) := K1.out.cell 1 rfl 5 rfl; have f0_6 : W3.cell? ⟨g2, 6, none⟩ = some (.int .i64 a_6) := K1.out.cell 1 rfl 6 rfl; have f0_7 : W3.cell? ⟨g2, 7, none⟩ = some (.int .i64 a_7) := K1.out.cell 1 rfl 7 rfl; have f0_8 : W3.cell? ⟨g2, 8, none⟩ = some (.bool a_8) := K1.out.cell 1 rfl 8 rfl; have f0_9 : W3.cell? ⟨g2, 9, none⟩ = some (.bool a_9) := K1.out.cell 1 rfl 9 rfl; have f0_10 : W3.cell? ⟨g2, 10, none⟩ = some (.bool a_10) := K1.out.cell 1 rfl 10 rfl; have f0_11 : W3.cell? ⟨g2, 11, none⟩ = some (.bool a_11) := K1.out.cell 1 rfl 11 rfl; have f0_12 : W3.cell? ⟨g2, 12, none⟩ = some (.bool a_12) := K1.out.cell 1 rfl 12 rfl; have f0_13 : W3.cell? ⟨g2, 13, none⟩ = some (.bool a_13) := K1.out.cell 1 rfl 13 rfl; have f0_14 : W3.cell? ⟨g2, 14, none⟩ = some (.bool a_14) := K1.out.cell 1 rfl 14 rfl; have f0_15 : W3.cell? ⟨g2, 15, none⟩ = some (.bool a_15) := K1.out.cell 1 rfl 15 rfl; have f0_16 : W3.cell? ⟨g2, 16, none⟩ = some (.slice A0_16 l_16.length c0_16) := K1.out.cell 1 rfl 16 rfl; have f0_17 : W3.cell? ⟨g2, 17, none⟩ = some (.int .i64 a_17) := K1.out.cell 1 rfl 17 rfl; have f0_18 : W3.cell? ⟨g2, 18, none⟩ = some (.int .i64 a_18) := K1.out.cell 1 rfl 18 rfl; have f1_0 : W3.cell? ⟨g3, 0, none⟩ = some (.int .i64 a_0) := K1.out.cell 0 rfl 0 rfl; have f1_1 : W3.cell? ⟨g3, 1, none⟩ = some (.int .i64 a_1) := K1.out.cell 0 rfl 1 rfl; have f1_2 : W3.cell? ⟨g3, 2, none⟩ = some (.int .i64 a_2) := K1.out.cell 0 rfl 2 rfl; have f1_3 : W3.cell? ⟨g3, 3, none⟩ = some (.int .i64 a_3) := K1.out.cell 0 rfl 3 rfl; have f1_4 : W3.cell? ⟨g3, 4, none⟩ = some (.int .i64 a_4) := K1.out.cell 0 rfl 4 rfl; have f1_5 : W3.cell? ⟨g3, 5, none⟩ = some (.slice A1_5 l_5.length c1_5) := K1.out.cell 0 rfl 5 rfl; have f1_6 : W3.cell? ⟨g3, 6, none⟩ = some (.int .i64 a_6) := K1.out.cell 0 rfl 6 rfl; have f1_7 : W3.cell? ⟨g3, 7, none⟩ = some (.int .i64 a_7) := K1.out.cell 0 rfl 7 rfl; have f1_8 : W3.cell? ⟨g3, 8, none⟩ = some (.bool a_8) := K1.out.cell 0 rfl 8 rfl; have f1_9 : W3.cell? ⟨g3, 9, none⟩ = some (.bool a_9) := K1.out.cell 0 rfl 9 rfl; have f1_10 : W3.cell? ⟨g3, 10, none⟩ = some (.bool a_10) := K1.out.cell 0 rfl 10 rfl; have f1_11 : W3.cell? ⟨g3, 11, none⟩ = some (.bool a_11) := K1.out.cell 0 rfl 11 rfl; have f1_12 : W3.cell? ⟨g3, 12, none⟩ = some (.bool a_12) := K1.out.cell 0 rfl 12 rfl; have f1_13 : W3.cell? ⟨g3, 13, none⟩ = some (.bool a_13) := K1.out.cell 0 rfl 13 rfl; have f1_14 : W3.cell? ⟨g3, 14, none⟩ = some (.bool a_14) := K1.out.cell 0 rfl 14 rfl; have f1_15 : W3.cell? ⟨g3, 15, none⟩ = some (.bool a_15) := K1.out.cell 0 rfl 15 rfl; have f1_16 : W3.cell? ⟨g3, 16, none⟩ = some (.slice A1_16 l_16.length c1_16) := K1.out.cell 0 rfl 16 rfl; have f1_17 : W3.cell? ⟨g3, 17, none⟩ = some (.int .i64 a_17) := K1.out.cell 0 rfl 17 rfl; have f1_18 : W3.cell? ⟨g3, 18, none⟩ = some (.int .i64 a_18) := K1.out.cell 0 rfl 18 rfl))
  clear f0_0 f0_1 f0_2 f0_3 f0_4 f0_5 f0_6 f0_7 f0_8 f0_9 f0_10 f0_11 f0_12 f0_13 f0_14 f0_15 f0_16 f0_17 f0_18 f1_0 f1_1 f1_2 f1_3 f1_4 f1_5 f1_6 f1_7 f1_8 f1_9 f1_10 f1_11 f1_12 f1_13 f1_14 f1_15 f1_16 f1_17 f1_18
  go_loopg [5] l_5.length (fun kq v5 w' => ∃ x : Int, v5 = .int .i64 x ∧ Aside0 (0 ≤ x ∧ x + kq = l_5.length) ∧ Aside0 (Bks w.heap.size w w' [(g3, 55, #[.int .i64 a_0, .int .i64 a_1, .int .i64 a_2, .int .i64 a_3, .int .i64 a_4, .slice A1_5 l_5.length c1_5, .int .i64 a_6, .int .i64 a_7, .bool a_8, .bool a_9, .bool a_10, .bool a_11, .bool a_12, .bool a_13, .bool a_14, .bool a_15, .slice A1_16 l_16.length c1_16, .int .i64 a_17, .int .i64 a_18]), (g2, 55, #[.int .i64 a_0, .int .i64 a_1, .int .i64 a_2, .int .i64 a_3, .int .i64 a_4, .slice A0_5 l_5.length c0_5, .int .i64 a_6, .int .i64 a_7, .bool a_8, .bool a_9, .bool a_10, .bool a_11, .bool a_12, .bool a_13, .bool a_14, .bool a_15, .slice A0_16 l_16.length c0_16, .int .i64 a_17, .int .i64 a_18])]))
  case atStart => exact ⟨0, rfl, ⟨by omega⟩, K1⟩
  case round =>
  clear K1
  obtain ⟨x, rfl, HI, K⟩ := hrel
  have f0_5 : wr.cell? ⟨g2, 5, none⟩ = some (.slice A0_5 l_5.length c0_5) := K.out.cell 1 rfl 5 rfl
  have f1_5 : wr.cell? ⟨g3, 5, none⟩ = some (.slice A1_5 l_5.length c1_5) := K.out.cell 0 rfl 5 rfl
  by_cases hi : x < (l_5.length : Int)
  · have hb0 : decide (x < (l_5.length : Int)) = true := decide_eq_true hi
    have hHI := HI.out
    have hw : wrap64 (x + 1) = x + 1 := by have := HL.out; unfold wrap64; omega
    cases gk with
    | zero => omega
    | succ kk =>
    have p516 : 0 ≤ x := hHI.1
    have hHI2 := Aside0.mk hHI
    clear hHI
    have q516 : x < (l_5.length : Int) := hi
    have HQ := Aside0.mk q516
    obtain ⟨ad516, e516, hx516_0, hx516_1⟩ := at_T89 (Kd.C_below HR05.out K.out.below) x p516 q516
    cases e516
    obtain ⟨ad517, e517, hx517_0, hx517_1⟩ := at_T89 (Kd.C_below HR15.out K.out.below) x p516 q516
    cases e517
    replace p516 := eq_true p516
    replace q516 := eq_true q516
    clear hi
    go_wp2
    repeat (go_quiet (fail); try go_wp2)
    go_roundg kk
    case measure => omega
    case rel => exact ⟨x + 1, by first | rfl | rw [hw], ⟨by have := hHI2.out; have := HQ.out; omega⟩, ⟨by first | exact K.out | exact K.out.drewN _ | exact K.out.drew | exact (K.out.drewN _).drewN _⟩⟩
  · have hb0 : decide (x < (l_5.length : Int)) = false := decide_eq_false hi
    clear hi
    go_wp2
    clear f0_5 f1_5 hb0 HI
    go_loopg [6] l_16.length (fun kq v5 w' => ∃ x : Int, v5 = .int .i64 x ∧ Aside0 (0 ≤ x ∧ x + kq = l_16.length) ∧ Aside0 (Bks w.heap.size w w' [(g3, 55, #[.int .i64 a_0, .int .i64 a_1, .int .i64 a_2, .int .i64 a_3, .int .i64 a_4, .slice A1_5 l_5.length c1_5, .int .i64 a_6, .int .i64 a_7, .bool a_8, .bool a_9, .bool a_10, .bool a_11, .bool a_12, .bool a_13, .bool a_14, .bool a_15, .slice A1_16 l_16.length c1_16, .int .i64 a_17, .int .i64 a_18]), (g2, 55, #[.int .i64 a_0, .int .i64 a_1, .int .i64 a_2, .int .i64 a_3, .int .i64 a_4, .slice A0_5 l_5.length c0_5, .int .i64 a_6, .int .i64 a_7, .bool a_8, .bool a_9, .bool a_10, .bool a_11, .bool a_12, .bool a_13, .bool a_14, .bool a_15, .slice A0_16 l_16.length c0_16, .int .i64 a_17, .int .i64 a_18])]))
    case atStart => exact ⟨0, rfl, ⟨by omega⟩, K⟩
    case round =>
    clear K
    obtain ⟨x, rfl, HI, K⟩ := hrel
    have f0_16 : wr.cell? ⟨g2, 16, none⟩ = some (.slice A0_16 l_16.length c0_16) := K.out.cell 1 rfl 16 rfl
    have f1_16 : wr.cell? ⟨g3, 16, none⟩ = some (.slice A1_16 l_16.length c1_16) := K.out.cell 0 rfl 16 rfl
    by_cases hi : x < (l_16.length : Int)
    · have hb0 : decide (x < (l_16.length : Int)) = true := decide_eq_true hi
      have hHI := HI.out
      have hw : wrap64 (x + 1) = x + 1 := by have := HL.out; unfold wrap64; omega
      cases gk with
      | zero => omega
      | succ kk =>
      have p516 : 0 ≤ x := hHI.1
      have hHI2 := Aside0.mk hHI
      clear hHI
      have q516 : x < (l_16.length : Int) := hi
      have HQ := Aside0.mk q516
      obtain ⟨ad516, e516, hx516_0⟩ := Kd.at_int (Kd.C_below HR016.out K.out.below) x p516 q516
      cases e516
      obtain ⟨ad517, e517, hx517_0⟩ := Kd.at_int (Kd.C_below HR116.out K.out.below) x p516 q516
      cases e517
      replace p516 := eq_true p516
      replace q516 := eq_true q516
      clear hi
      go_wp2
      repeat (go_quiet (fail); try go_wp2)
      go_roundg kk
      case measure => omega
      case rel => exact ⟨x + 1, by first | rfl | rw [hw], ⟨by have := hHI2.out; have := HQ.out; omega⟩, ⟨by first | exact K.out | exact K.out.drewN _ | exact K.out.drew | exact (K.out.drewN _).drewN _⟩⟩
    · have hb0 : decide (x < (l_16.length : Int)) = false := decide_eq_false hi
      clear hi
      go_wp2
      go_ret
      exact ⟨rfl, K.out.below⟩
end Go.Proofs.Ytihfopblmjgfaaa.Q

/- The law function HeadsegQuants. Printed by wip/tools/genLawQ.py of this session. -/
namespace Go.Proofs.Ytihfopblmjgfaaa.Q
open Go.RowKit Go.Proofs.YtihfopblmjgfaaaW.PrintWords Go.Proofs.YtihfopblmjgfaaaW.PrintLast Go.Proofs.YtihfopblmjgfaaaW.PrintMore
set_option linter.unusedVariables false
set_option linter.unusedSimpArgs false

def waveletlaw29_HeadsegQuants.g (k : Nat) (a : Int × List Int × Int) (c : Int × Int × Int × Int × Int × List S89 × Int × Int × Bool × Bool × Bool × Bool × Bool × Bool × Bool × Bool × List Int × Int × Int × Int) : Option Bool :=
  (waveletlaw29_sameSegment.f k a.1 a.2.1 a.1 a.2.1).bind fun t1 => if t1 = true then waveletlaw29_awake.f k else none
open Classical in
noncomputable def waveletlaw29_HeadsegQuants.f (k : Nat) (a0_0 : Int) (a0_1 : Int) (a0_2 : Int) (a0_3 : Int) (a0_4 : Int) (l0_5 : List (S89)) (a0_6 : Int) (a0_7 : Int) (a0_8 : Bool) (a0_9 : Bool) (a0_10 : Bool) (a0_11 : Bool) (a0_12 : Bool) (a0_13 : Bool) (a0_14 : Bool) (a0_15 : Bool) (l0_16 : List Int) (a0_17 : Int) (a0_18 : Int) (a1_0 : Int) (l1_1 : List Int) : Option (Bool) :=
  if (l0_16.length : Int) > 300 then waveletlaw29_awake.f k else if (l0_5.length : Int) > 300 then waveletlaw29_awake.f k else (waveletlaw29_long.f a1_0 l1_1).bind fun t => if t = true then waveletlaw29_awake.f k else
    (headseg_Quant.f k a0_0 a0_1 a0_2 a0_3 a0_4 l0_5 a0_6 a0_7 a0_8 a0_9 a0_10 a0_11 a0_12 a0_13 a0_14 a0_15 l0_16 a0_17 a0_18).bind fun a => (waveletref29_Quant.f k a0_0 a0_1 a0_2 a0_3 a0_4 l0_5 a0_6 a0_7 a0_8 a0_9 a0_10 a0_11 a0_12 a0_13 a0_14 a0_15 l0_16 a0_17 a0_18).bind fun b => (headseg_ParseQuant.f k a1_0 l1_1 a0_0 a0_1 a0_2 a0_3 a0_4 l0_5 a0_6 a0_7 a0_8 a0_9 a0_10 a0_11 a0_12 a0_13 a0_14 a0_15 l0_16 a0_17 a0_18).bind fun c => (waveletref29_ParseQuant.f k a1_0 l1_1 a0_0 a0_1 a0_2 a0_3 a0_4 l0_5 a0_6 a0_7 a0_8 a0_9 a0_10 a0_11 a0_12 a0_13 a0_14 a0_15 l0_16 a0_17 a0_18).bind fun d => if a = b ∧ c = d then waveletlaw29_HeadsegQuants.g k a c else none
theorem HeadsegQuants_g {k : Nat} {a : Int × List Int × Int} {c : Int × Int × Int × Int × Int × List S89 × Int × Int × Bool × Bool × Bool × Bool × Bool × Bool × Bool × Bool × List Int × Int × Int × Int} (h : waveletlaw29_HeadsegQuants.g k a c = some true) : waveletlaw29_sameSegment.f k a.1 a.2.1 a.1 a.2.1 = some true ∧ waveletlaw29_awake.f k = some true := by
  unfold waveletlaw29_HeadsegQuants.g at h
  obtain ⟨t1, h1, h⟩ := Option.bind_eq_some_iff.mp h
  cases t1
  · simp at h
  exact ⟨h1, by simpa using h⟩
theorem HeadsegQuants_f {t : Option Bool} {A B : Option (Int × List Int × Int)} {C D : Option (Int × Int × Int × Int × Int × List S89 × Int × Int × Bool × Bool × Bool × Bool × Bool × Bool × Bool × Bool × List Int × Int × Int × Int)} {w : Option Bool} {G : Int × List Int × Int → Int × Int × Int × Int × Int × List S89 × Int × Int × Bool × Bool × Bool × Bool × Bool × Bool × Bool × Bool × List Int × Int × Int × Int → Option Bool} {I : ∀ (a b : Int × List Int × Int) (c d : Int × Int × Int × Int × Int × List S89 × Int × Int × Bool × Bool × Bool × Bool × Bool × Bool × Bool × Bool × List Int × Int × Int × Int), Decidable (a = b ∧ c = d)}
    (h : (t.bind fun t => if t = true then w else A.bind fun a => B.bind fun b => C.bind fun c => D.bind fun d => @ite _ (a = b ∧ c = d) (I a b c d) (G a c) none) = some true) : (t = some true ∧ w = some true) ∨ (t = some false ∧ ∃ a c, A = some a ∧ B = some a ∧ C = some c ∧ D = some c ∧ G a c = some true) := by
  obtain ⟨t', ht, h0⟩ := Option.bind_eq_some_iff.mp h
  cases t' with
  | true => exact .inl ⟨ht, by simpa using h0⟩
  | false =>
    rw [if_neg (by simp)] at h0
    obtain ⟨a, ha, h1⟩ := Option.bind_eq_some_iff.mp h0
    obtain ⟨b, hb, h2⟩ := Option.bind_eq_some_iff.mp h1
    obtain ⟨c, hc, h3⟩ := Option.bind_eq_some_iff.mp h2
    obtain ⟨d, hd, h4⟩ := Option.bind_eq_some_iff.mp h3
    by_cases hq : a = b ∧ c = d
    · rw [if_pos hq] at h4
      exact .inr ⟨ht, a, c, ha, by rw [hb, hq.1], hc, by rw [hd, hq.2], h4⟩
    · rw [if_neg hq] at h4
      cases h4
set_option maxHeartbeats 8000000 in
set_option maxRecDepth 100000 in
theorem waveletlaw29_HeadsegQuants.calls (k : Nat) (a0_0 : Int) (a0_1 : Int) (a0_2 : Int) (a0_3 : Int) (a0_4 : Int) (A0_5 : Option Addr) (c0_5 : Nat) (l0_5 : List (S89)) (a0_6 : Int) (a0_7 : Int) (a0_8 : Bool) (a0_9 : Bool) (a0_10 : Bool) (a0_11 : Bool) (a0_12 : Bool) (a0_13 : Bool) (a0_14 : Bool) (a0_15 : Bool) (A0_16 : Option Addr) (c0_16 : Nat) (l0_16 : List Int) (a0_17 : Int) (a0_18 : Int) (a1_0 : Int) (A1_1 : Option Addr) (c1_1 : Nat) (l1_1 : List Int) (r : Bool) (hr_ : r = true) (w : World) (hr0_5 : Kd.C k89 w A0_5 l0_5.length l0_5) (hc0_5 : l0_5.length ≤ c0_5) (hr0_16 : Kd.C (Kd.int .i64) w A0_16 l0_16.length l0_16) (hc0_16 : l0_16.length ≤ c0_16) (hr1_1 : Kd.C (Kd.int .u8) w A1_1 l1_1.length l1_1) (hc1_1 : l1_1.length ≤ c1_1) (h : waveletlaw29_HeadsegQuants.f k a0_0 a0_1 a0_2 a0_3 a0_4 l0_5 a0_6 a0_7 a0_8 a0_9 a0_10 a0_11 a0_12 a0_13 a0_14 a0_15 l0_16 a0_17 a0_18 a1_0 l1_1 = some r) :
    Calls Try.prog 5 #[.agg #[.int .i64 a0_0, .int .i64 a0_1, .int .i64 a0_2, .int .i64 a0_3, .int .i64 a0_4, .slice A0_5 l0_5.length c0_5, .int .i64 a0_6, .int .i64 a0_7, .bool a0_8, .bool a0_9, .bool a0_10, .bool a0_11, .bool a0_12, .bool a0_13, .bool a0_14, .bool a0_15, .slice A0_16 l0_16.length c0_16, .int .i64 a0_17, .int .i64 a0_18], .agg #[.int .i64 a1_0, .slice A1_1 l1_1.length c1_1]] w fun e w' => e = .returned (.bool r) ∧ Below w.heap.size w w' := by
  subst hr_
  have HR5 := Aside0.mk hr0_5
  have HR16 := Aside0.mk hr0_16
  have HR1 := Aside0.mk hr1_1
  have HC5 := Aside0.mk hc0_5
  have HC16 := Aside0.mk hc0_16
  have HC1 := Aside0.mk hc1_1
  clear hr0_5 hr0_16 hr1_1 hc0_5 hc0_16 hc1_1
  have K00 := Aside0.mk (Bks.nil w)
  go_enter Try.func5, Try.ntmps5
  unfold waveletlaw29_HeadsegQuants.f at h
  by_cases h1 : (l0_16.length : Int) > 300
  · rw [if_pos h1] at h
    have HA := Aside0.mk h
    clear h
    have d1 : decide (300 < (l0_16.length : Int)) = true := decide_eq_true (by omega)
    have e1 : decide (300 < l0_16.length) = true := decide_eq_true (by omega)
    clear h1
    go_wp2_with (first | ((with_reducible refine gate_dst (N := 2) rfl ?_); refine box_event ?hg (N := 2) ?hd (cs := #[.int .i64 a0_0, .int .i64 a0_1, .int .i64 a0_2, .int .i64 a0_3, .int .i64 a0_4, .slice A0_5 l0_5.length c0_5, .int .i64 a0_6, .int .i64 a0_7, .bool a0_8, .bool a0_9, .bool a0_10, .bool a0_11, .bool a0_12, .bool a0_13, .bool a0_14, .bool a0_15, .slice A0_16 l0_16.length c0_16, .int .i64 a0_17, .int .i64 a0_18]) (t := 55) ?hr ?_; (case hd => rfl); (case hg => rfl); (case hr => first | (go_simp; done) | (go_simp; rfl)); intro g2 hg W2 hbox hb; have K0 := Aside0.mk (K00.out.box (Nat.le_refl _) hg hbox hb); clear hg hbox hb K00) | ((with_reducible refine gate_dst (N := 3) rfl ?_); refine box_event ?hg (N := 3) ?hd (cs := #[.int .i64 a1_0, .slice A1_1 l1_1.length c1_1]) (t := 26) ?hr ?_; (case hd => rfl); (case hg => rfl); (case hr => first | (go_simp; done) | (go_simp; rfl)); intro g3 hg W3 hbox hb; have K1 := Aside0.mk (K0.out.box (below_size K0.out.below) hg hbox hb); clear hg hbox hb K0; have hz16 : W3.cell? ⟨g2, 16, none⟩ = some (.slice A0_16 l0_16.length c0_16) := K1.out.cell 1 rfl 16 rfl; have hz5 : W3.cell? ⟨g2, 5, none⟩ = some (.slice A0_5 l0_5.length c0_5) := K1.out.cell 1 rfl 5 rfl) | (go_at_call 12; refine (waveletlaw29_awake.calls k true _ HA.out).mono ?_; rintro _ w' ⟨rfl, b⟩; have Kw := Aside0.mk (K1.out.call (below_size K1.out.below) b); clear b))
    go_ret
    exact ⟨rfl, Kw.out.below⟩
  rw [if_neg h1] at h
  by_cases h2 : (l0_5.length : Int) > 300
  · rw [if_pos h2] at h
    have HA := Aside0.mk h
    clear h
    have d1 : decide (300 < (l0_16.length : Int)) = false := decide_eq_false (by omega)
    have e1 : decide (300 < l0_16.length) = false := decide_eq_false (by omega)
    have d2 : decide (300 < (l0_5.length : Int)) = true := decide_eq_true (by omega)
    have e2 : decide (300 < l0_5.length) = true := decide_eq_true (by omega)
    clear h1 h2
    go_wp2_with (first | ((with_reducible refine gate_dst (N := 2) rfl ?_); refine box_event ?hg (N := 2) ?hd (cs := #[.int .i64 a0_0, .int .i64 a0_1, .int .i64 a0_2, .int .i64 a0_3, .int .i64 a0_4, .slice A0_5 l0_5.length c0_5, .int .i64 a0_6, .int .i64 a0_7, .bool a0_8, .bool a0_9, .bool a0_10, .bool a0_11, .bool a0_12, .bool a0_13, .bool a0_14, .bool a0_15, .slice A0_16 l0_16.length c0_16, .int .i64 a0_17, .int .i64 a0_18]) (t := 55) ?hr ?_; (case hd => rfl); (case hg => rfl); (case hr => first | (go_simp; done) | (go_simp; rfl)); intro g2 hg W2 hbox hb; have K0 := Aside0.mk (K00.out.box (Nat.le_refl _) hg hbox hb); clear hg hbox hb K00) | ((with_reducible refine gate_dst (N := 3) rfl ?_); refine box_event ?hg (N := 3) ?hd (cs := #[.int .i64 a1_0, .slice A1_1 l1_1.length c1_1]) (t := 26) ?hr ?_; (case hd => rfl); (case hg => rfl); (case hr => first | (go_simp; done) | (go_simp; rfl)); intro g3 hg W3 hbox hb; have K1 := Aside0.mk (K0.out.box (below_size K0.out.below) hg hbox hb); clear hg hbox hb K0; have hz16 : W3.cell? ⟨g2, 16, none⟩ = some (.slice A0_16 l0_16.length c0_16) := K1.out.cell 1 rfl 16 rfl; have hz5 : W3.cell? ⟨g2, 5, none⟩ = some (.slice A0_5 l0_5.length c0_5) := K1.out.cell 1 rfl 5 rfl) | (go_at_call 12; refine (waveletlaw29_awake.calls k true _ HA.out).mono ?_; rintro _ w' ⟨rfl, b⟩; have Kw := Aside0.mk (K1.out.call (below_size K1.out.below) b); clear b))
    go_ret
    exact ⟨rfl, Kw.out.below⟩
  rw [if_neg h2] at h
  rcases HeadsegQuants_f h with ⟨hl, hA⟩ | ⟨hl, a, c, ha, hb, hc, hd, h⟩
  · have HL := Aside0.mk hl
    have HA := Aside0.mk hA
    clear hl hA h
    have d1 : decide (300 < (l0_16.length : Int)) = false := decide_eq_false (by omega)
    have e1 : decide (300 < l0_16.length) = false := decide_eq_false (by omega)
    have d2 : decide (300 < (l0_5.length : Int)) = false := decide_eq_false (by omega)
    have e2 : decide (300 < l0_5.length) = false := decide_eq_false (by omega)
    clear h1 h2
    go_wp2_with (first | ((with_reducible refine gate_dst (N := 2) rfl ?_); refine box_event ?hg (N := 2) ?hd (cs := #[.int .i64 a0_0, .int .i64 a0_1, .int .i64 a0_2, .int .i64 a0_3, .int .i64 a0_4, .slice A0_5 l0_5.length c0_5, .int .i64 a0_6, .int .i64 a0_7, .bool a0_8, .bool a0_9, .bool a0_10, .bool a0_11, .bool a0_12, .bool a0_13, .bool a0_14, .bool a0_15, .slice A0_16 l0_16.length c0_16, .int .i64 a0_17, .int .i64 a0_18]) (t := 55) ?hr ?_; (case hd => rfl); (case hg => rfl); (case hr => first | (go_simp; done) | (go_simp; rfl)); intro g2 hg W2 hbox hb; have K0 := Aside0.mk (K00.out.box (Nat.le_refl _) hg hbox hb); clear hg hbox hb K00) | ((with_reducible refine gate_dst (N := 3) rfl ?_); refine box_event ?hg (N := 3) ?hd (cs := #[.int .i64 a1_0, .slice A1_1 l1_1.length c1_1]) (t := 26) ?hr ?_; (case hd => rfl); (case hg => rfl); (case hr => first | (go_simp; done) | (go_simp; rfl)); intro g3 hg W3 hbox hb; have K1 := Aside0.mk (K0.out.box (below_size K0.out.below) hg hbox hb); clear hg hbox hb K0; have hz16 : W3.cell? ⟨g2, 16, none⟩ = some (.slice A0_16 l0_16.length c0_16) := K1.out.cell 1 rfl 16 rfl; have hz5 : W3.cell? ⟨g2, 5, none⟩ = some (.slice A0_5 l0_5.length c0_5) := K1.out.cell 1 rfl 5 rfl) | ((with_reducible refine gate_dst (N := 24) rfl ?_); (try (refine gate_guard (by rfl) ?_; dsimp only)); refine load_ev rfl 26 (.tmp 3) rfl rfl (K1.out.get 0 rfl) Try.underlying26 rfl ?_) | (go_at_call 11; refine (waveletlaw29_long.calls a1_0 A1_1 c1_1 l1_1 true _ (Kd.C_below HR1.out K1.out.below) HC1.out HL.out).mono ?_; rintro _ w2 ⟨rfl, b⟩; have K2 := Aside0.mk (K1.out.call (below_size K1.out.below) b); clear b K1 hz16 hz5) | (go_at_call 12; refine (waveletlaw29_awake.calls k true _ HA.out).mono ?_; rintro _ w' ⟨rfl, b⟩; have Kw := Aside0.mk (K2.out.call (below_size K2.out.below) b); clear b))
    go_ret
    exact ⟨rfl, Kw.out.below⟩
  · have d1 : decide (300 < (l0_16.length : Int)) = false := decide_eq_false (by omega)
    have e1 : decide (300 < l0_16.length) = false := decide_eq_false (by omega)
    have d2 : decide (300 < (l0_5.length : Int)) = false := decide_eq_false (by omega)
    have e2 : decide (300 < l0_5.length) = false := decide_eq_false (by omega)
    clear h1 h2
    obtain ⟨hs1, hA⟩ := HeadsegQuants_g h
    obtain ⟨q1, q2, q3⟩ := a
    obtain ⟨s0, s1, s2, s3, s4, s5, s6, s7, s8, s9, s10, s11, s12, s13, s14, s15, s16, s17, s18, se⟩ := c
    have HL := Aside0.mk hl
    have HA := Aside0.mk hA
    have Ha := Aside0.mk ha
    have Hb := Aside0.mk hb
    have Hc := Aside0.mk hc
    have Hd := Aside0.mk hd
    have Hs1 := Aside0.mk hs1
    clear hl h hA ha hb hc hd hs1
    go_wp2_with (first | ((with_reducible refine gate_dst (N := 2) rfl ?_); refine box_event ?hg (N := 2) ?hd (cs := #[.int .i64 a0_0, .int .i64 a0_1, .int .i64 a0_2, .int .i64 a0_3, .int .i64 a0_4, .slice A0_5 l0_5.length c0_5, .int .i64 a0_6, .int .i64 a0_7, .bool a0_8, .bool a0_9, .bool a0_10, .bool a0_11, .bool a0_12, .bool a0_13, .bool a0_14, .bool a0_15, .slice A0_16 l0_16.length c0_16, .int .i64 a0_17, .int .i64 a0_18]) (t := 55) ?hr ?_; (case hd => rfl); (case hg => rfl); (case hr => first | (go_simp; done) | (go_simp; rfl)); intro g2 hg W2 hbox hb; have K0 := Aside0.mk (K00.out.box (Nat.le_refl _) hg hbox hb); clear hg hbox hb K00) | ((with_reducible refine gate_dst (N := 3) rfl ?_); refine box_event ?hg (N := 3) ?hd (cs := #[.int .i64 a1_0, .slice A1_1 l1_1.length c1_1]) (t := 26) ?hr ?_; (case hd => rfl); (case hg => rfl); (case hr => first | (go_simp; done) | (go_simp; rfl)); intro g3 hg W3 hbox hb; have K1 := Aside0.mk (K0.out.box (below_size K0.out.below) hg hbox hb); clear hg hbox hb K0; have hz16 : W3.cell? ⟨g2, 16, none⟩ = some (.slice A0_16 l0_16.length c0_16) := K1.out.cell 1 rfl 16 rfl; have hz5 : W3.cell? ⟨g2, 5, none⟩ = some (.slice A0_5 l0_5.length c0_5) := K1.out.cell 1 rfl 5 rfl) | ((with_reducible refine gate_dst (N := 24) rfl ?_); (try (refine gate_guard (by rfl) ?_; dsimp only)); refine load_ev rfl 26 (.tmp 3) rfl rfl (K1.out.get 0 rfl) Try.underlying26 rfl ?_) | (go_at_call 11; refine (waveletlaw29_long.calls a1_0 A1_1 c1_1 l1_1 false _ (Kd.C_below HR1.out K1.out.below) HC1.out HL.out).mono ?_; rintro _ w2 ⟨rfl, b⟩; have K2 := Aside0.mk (K1.out.call (below_size K1.out.below) b); clear b K1 hz16 hz5) | ((with_reducible refine gate_dst (N := 29) rfl ?_); refine load_ev rfl 55 (.tmp 2) rfl rfl (K2.out.get 1 rfl) Try.underlying55 rfl ?_) | (go_at_call 28; fail))
    have K := K2
    clear K2
    refine (headseg_Quant.calls k a0_0 a0_1 a0_2 a0_3 a0_4 A0_5 c0_5 l0_5 a0_6 a0_7 a0_8 a0_9 a0_10 a0_11 a0_12 a0_13 a0_14 a0_15 A0_16 c0_16 l0_16 a0_17 a0_18 q1 q2 q3 _ (Kd.C_below HR5.out K.out.below) HC5.out (Kd.C_below HR16.out K.out.below) HC16.out Ha.out).mono ?_
    rintro _ w3 ⟨v1, rfl, r1, b⟩
    obtain ⟨Aa, ca, rfl⟩ := Kd.R_slice r1
    have Ra := Aside0.mk (Kd.R_lower r1 (below_size K.out.below))
    have K' := Aside0.mk (K.out.call (below_size K.out.below) b)
    clear K
    have K := K'
    clear K'
    clear b r1
    go_wp2_with (first | ((with_reducible refine gate_dst (N := 5) rfl ?_); refine box_event ?hg (N := 5) ?hd (cs := #[.int .i64 0, .slice none 0 0]) (t := 26) ?hr ?_; (case hd => rfl); (case hg => rfl); (case hr => first | (go_simp; done) | (go_simp; rfl)); intro g5 hg W5 hbox hb; have Ra' := Aside0.mk (Kd.R_below Ra.out hb); clear Ra; have Ra := Ra'; clear Ra'; have K' := Aside0.mk (K.out.box (below_size K.out.below) hg hbox hb); clear K; have K := K'; clear K'; clear hg hbox hb) | (refine store_ev rfl rfl 26 (.tmp 5) (.tmp 31) rfl rfl rfl (K.out.get 0 rfl) rfl rfl (by first | (kernel_rfl) | (simp [Value.oneCell'])) ?_; intro S5 hs; have Ra' := Aside0.mk (row_stored Ra.out (K.out.get 0 rfl) (by decide) hs); clear Ra; have Ra := Ra'; clear Ra'; have K' := Aside0.mk (K.out.stored 0 rfl hs); clear K; have K := K'; clear K'; clear hs) | ((with_reducible refine gate_dst (N := 34) rfl ?_); refine load_ev rfl 55 (.tmp 2) rfl rfl (K.out.get 2 rfl) Try.underlying55 rfl ?_) | (go_at_call 29; fail))
    refine (waveletref29_Quant.calls k a0_0 a0_1 a0_2 a0_3 a0_4 A0_5 c0_5 l0_5 a0_6 a0_7 a0_8 a0_9 a0_10 a0_11 a0_12 a0_13 a0_14 a0_15 A0_16 c0_16 l0_16 a0_17 a0_18 q1 q2 q3 _ (Kd.C_below HR5.out K.out.below) HC5.out (Kd.C_below HR16.out K.out.below) HC16.out Hb.out).mono ?_
    rintro _ w4 ⟨v1, rfl, r1, b⟩
    obtain ⟨Ab, cb, rfl⟩ := Kd.R_slice r1
    have Ra' := Aside0.mk (Kd.R_below Ra.out b)
    clear Ra
    have Ra := Ra'
    clear Ra'
    have Rb := Aside0.mk (Kd.R_lower r1 (below_size K.out.below))
    have K' := Aside0.mk (K.out.call (below_size K.out.below) b)
    clear K
    have K := K'
    clear K'
    clear b r1
    go_wp2_with (first | ((with_reducible refine gate_dst (N := 7) rfl ?_); refine box_event ?hg (N := 7) ?hd (cs := #[.int .i64 0, .slice none 0 0]) (t := 26) ?hr ?_; (case hd => rfl); (case hg => rfl); (case hr => first | (go_simp; done) | (go_simp; rfl)); intro g7 hg W7 hbox hb; have Ra' := Aside0.mk (Kd.R_below Ra.out hb); clear Ra; have Ra := Ra'; clear Ra'; have Rb' := Aside0.mk (Kd.R_below Rb.out hb); clear Rb; have Rb := Rb'; clear Rb'; have K' := Aside0.mk (K.out.box (below_size K.out.below) hg hbox hb); clear K; have K := K'; clear K'; clear hg hbox hb) | (refine store_ev rfl rfl 26 (.tmp 7) (.tmp 36) rfl rfl rfl (K.out.get 0 rfl) rfl rfl (by first | (kernel_rfl) | (simp [Value.oneCell'])) ?_; intro S7 hs; have Ra' := Aside0.mk (row_stored Ra.out (K.out.get 0 rfl) (by decide) hs); clear Ra; have Ra := Ra'; clear Ra'; have Rb' := Aside0.mk (row_stored Rb.out (K.out.get 0 rfl) (by decide) hs); clear Rb; have Rb := Rb'; clear Rb'; have K' := Aside0.mk (K.out.stored 0 rfl hs); clear K; have K := K'; clear K'; clear hs) | ((with_reducible refine gate_dst (N := 39) rfl ?_); refine load_ev rfl 26 (.tmp 3) rfl rfl (K.out.get 2 rfl) Try.underlying26 rfl ?_) | ((with_reducible refine gate_dst (N := 40) rfl ?_); refine load_ev rfl 55 (.tmp 2) rfl rfl (K.out.get 3 rfl) Try.underlying55 rfl ?_) | (go_at_call 30; fail))
    refine (headseg_ParseQuant.calls k a1_0 A1_1 c1_1 l1_1 a0_0 a0_1 a0_2 a0_3 a0_4 A0_5 c0_5 l0_5 a0_6 a0_7 a0_8 a0_9 a0_10 a0_11 a0_12 a0_13 a0_14 a0_15 A0_16 c0_16 l0_16 a0_17 a0_18 s0 s1 s2 s3 s4 s5 s6 s7 s8 s9 s10 s11 s12 s13 s14 s15 s16 s17 s18 se _ (Kd.C_below HR1.out K.out.below) HC1.out (Kd.C_below HR5.out K.out.below) HC5.out (Kd.C_below HR16.out K.out.below) HC16.out Hc.out).mono ?_
    rintro _ w5 ⟨v5, v16, rfl, r5, r16, b⟩
    obtain ⟨Ac5, cc5, rfl⟩ := Kd.R_slice r5
    obtain ⟨Ac16, cc16, rfl⟩ := Kd.R_slice r16
    have Ra' := Aside0.mk (Kd.R_below Ra.out b)
    clear Ra
    have Ra := Ra'
    clear Ra'
    have Rb' := Aside0.mk (Kd.R_below Rb.out b)
    clear Rb
    have Rb := Rb'
    clear Rb'
    have Rc5 := Aside0.mk (Kd.R_lower r5 (below_size K.out.below))
    have Rc16 := Aside0.mk (Kd.R_lower r16 (below_size K.out.below))
    have K' := Aside0.mk (K.out.call (below_size K.out.below) b)
    clear K
    have K := K'
    clear K'
    clear b r5 r16
    go_wp2_with (first | ((with_reducible refine gate_dst (N := 9) rfl ?_); refine box_event ?hg (N := 9) ?hd (cs := #[.int .i64 0, .int .i64 0, .int .i64 0, .int .i64 0, .int .i64 0, .slice none 0 0, .int .i64 0, .int .i64 0, .bool false, .bool false, .bool false, .bool false, .bool false, .bool false, .bool false, .bool false, .slice none 0 0, .int .i64 0, .int .i64 0]) (t := 55) ?hr ?_; (case hd => rfl); (case hg => rfl); (case hr => first | (go_simp; done) | (go_simp; rfl)); intro g9 hg W9 hbox hb; have Ra' := Aside0.mk (Kd.R_below Ra.out hb); clear Ra; have Ra := Ra'; clear Ra'; have Rb' := Aside0.mk (Kd.R_below Rb.out hb); clear Rb; have Rb := Rb'; clear Rb'; have Rc5' := Aside0.mk (Kd.R_below Rc5.out hb); clear Rc5; have Rc5 := Rc5'; clear Rc5'; have Rc16' := Aside0.mk (Kd.R_below Rc16.out hb); clear Rc16; have Rc16 := Rc16'; clear Rc16'; have K' := Aside0.mk (K.out.box (below_size K.out.below) hg hbox hb); clear K; have K := K'; clear K'; clear hg hbox hb) | (refine store_ev rfl rfl 55 (.tmp 9) (.tmp 42) rfl rfl rfl (K.out.get 0 rfl) rfl rfl (by first | (kernel_rfl) | (simp [Value.oneCell'])) ?_; intro S9 hs; have Ra' := Aside0.mk (row_stored Ra.out (K.out.get 0 rfl) (by decide) hs); clear Ra; have Ra := Ra'; clear Ra'; have Rb' := Aside0.mk (row_stored Rb.out (K.out.get 0 rfl) (by decide) hs); clear Rb; have Rb := Rb'; clear Rb'; have Rc5' := Aside0.mk (row_stored Rc5.out (K.out.get 0 rfl) (by decide) hs); clear Rc5; have Rc5 := Rc5'; clear Rc5'; have Rc16' := Aside0.mk (row_stored Rc16.out (K.out.get 0 rfl) (by decide) hs); clear Rc16; have Rc16 := Rc16'; clear Rc16'; have K' := Aside0.mk (K.out.stored 0 rfl hs); clear K; have K := K'; clear K'; clear hs) | ((with_reducible refine gate_dst (N := 45) rfl ?_); refine load_ev rfl 26 (.tmp 3) rfl rfl (K.out.get 3 rfl) Try.underlying26 rfl ?_) | ((with_reducible refine gate_dst (N := 46) rfl ?_); refine load_ev rfl 55 (.tmp 2) rfl rfl (K.out.get 4 rfl) Try.underlying55 rfl ?_) | (go_at_call 31; fail))
    refine (waveletref29_ParseQuant.calls k a1_0 A1_1 c1_1 l1_1 a0_0 a0_1 a0_2 a0_3 a0_4 A0_5 c0_5 l0_5 a0_6 a0_7 a0_8 a0_9 a0_10 a0_11 a0_12 a0_13 a0_14 a0_15 A0_16 c0_16 l0_16 a0_17 a0_18 s0 s1 s2 s3 s4 s5 s6 s7 s8 s9 s10 s11 s12 s13 s14 s15 s16 s17 s18 se _ (Kd.C_below HR1.out K.out.below) HC1.out (Kd.C_below HR5.out K.out.below) HC5.out (Kd.C_below HR16.out K.out.below) HC16.out Hd.out).mono ?_
    rintro _ w6 ⟨v5, v16, rfl, r5, r16, b⟩
    obtain ⟨Ad5, cd5, rfl⟩ := Kd.R_slice r5
    obtain ⟨Ad16, cd16, rfl⟩ := Kd.R_slice r16
    have Ra' := Aside0.mk (Kd.R_below Ra.out b)
    clear Ra
    have Ra := Ra'
    clear Ra'
    have Rb' := Aside0.mk (Kd.R_below Rb.out b)
    clear Rb
    have Rb := Rb'
    clear Rb'
    have Rc5' := Aside0.mk (Kd.R_below Rc5.out b)
    clear Rc5
    have Rc5 := Rc5'
    clear Rc5'
    have Rc16' := Aside0.mk (Kd.R_below Rc16.out b)
    clear Rc16
    have Rc16 := Rc16'
    clear Rc16'
    have Rd5 := Aside0.mk (Kd.R_lower r5 (below_size K.out.below))
    have Rd16 := Aside0.mk (Kd.R_lower r16 (below_size K.out.below))
    have K' := Aside0.mk (K.out.call (below_size K.out.below) b)
    clear K
    have K := K'
    clear K'
    clear b r5 r16
    go_wp2_with (first | ((with_reducible refine gate_dst (N := 11) rfl ?_); refine box_event ?hg (N := 11) ?hd (cs := #[.int .i64 0, .int .i64 0, .int .i64 0, .int .i64 0, .int .i64 0, .slice none 0 0, .int .i64 0, .int .i64 0, .bool false, .bool false, .bool false, .bool false, .bool false, .bool false, .bool false, .bool false, .slice none 0 0, .int .i64 0, .int .i64 0]) (t := 55) ?hr ?_; (case hd => rfl); (case hg => rfl); (case hr => first | (go_simp; done) | (go_simp; rfl)); intro g11 hg W11 hbox hb; have Ra' := Aside0.mk (Kd.R_below Ra.out hb); clear Ra; have Ra := Ra'; clear Ra'; have Rb' := Aside0.mk (Kd.R_below Rb.out hb); clear Rb; have Rb := Rb'; clear Rb'; have Rc5' := Aside0.mk (Kd.R_below Rc5.out hb); clear Rc5; have Rc5 := Rc5'; clear Rc5'; have Rc16' := Aside0.mk (Kd.R_below Rc16.out hb); clear Rc16; have Rc16 := Rc16'; clear Rc16'; have Rd5' := Aside0.mk (Kd.R_below Rd5.out hb); clear Rd5; have Rd5 := Rd5'; clear Rd5'; have Rd16' := Aside0.mk (Kd.R_below Rd16.out hb); clear Rd16; have Rd16 := Rd16'; clear Rd16'; have K' := Aside0.mk (K.out.box (below_size K.out.below) hg hbox hb); clear K; have K := K'; clear K'; clear hg hbox hb) | (refine store_ev rfl rfl 55 (.tmp 11) (.tmp 48) rfl rfl rfl (K.out.get 0 rfl) rfl rfl (by first | (kernel_rfl) | (simp [Value.oneCell'])) ?_; intro S11 hs; have Ra' := Aside0.mk (row_stored Ra.out (K.out.get 0 rfl) (by decide) hs); clear Ra; have Ra := Ra'; clear Ra'; have Rb' := Aside0.mk (row_stored Rb.out (K.out.get 0 rfl) (by decide) hs); clear Rb; have Rb := Rb'; clear Rb'; have Rc5' := Aside0.mk (row_stored Rc5.out (K.out.get 0 rfl) (by decide) hs); clear Rc5; have Rc5 := Rc5'; clear Rc5'; have Rc16' := Aside0.mk (row_stored Rc16.out (K.out.get 0 rfl) (by decide) hs); clear Rc16; have Rc16 := Rc16'; clear Rc16'; have Rd5' := Aside0.mk (row_stored Rd5.out (K.out.get 0 rfl) (by decide) hs); clear Rd5; have Rd5 := Rd5'; clear Rd5'; have Rd16' := Aside0.mk (row_stored Rd16.out (K.out.get 0 rfl) (by decide) hs); clear Rd16; have Rd16 := Rd16'; clear Rd16'; have K' := Aside0.mk (K.out.stored 0 rfl hs); clear K; have K := K'; clear K'; clear hs) | ((with_reducible refine gate_dst (N := 50) rfl ?_); refine load_ev rfl 26 (.tmp 5) rfl rfl (K.out.get 3 rfl) Try.underlying26 rfl ?_) | ((with_reducible refine gate_dst (N := 51) rfl ?_); refine load_ev rfl 26 (.tmp 7) rfl rfl (K.out.get 2 rfl) Try.underlying26 rfl ?_) | (go_at_call 17; fail))
    refine (waveletlaw29_sameSegment.calls k q1 Aa ca q2 q1 Ab cb q2 true _ (Kd.R_reads' Ra.out).2.2 (Kd.R_reads' Ra.out).2.1 (Kd.R_reads' Rb.out).2.2 (Kd.R_reads' Rb.out).2.1 Hs1.out).mono ?_
    rintro _ w7 ⟨rfl, b⟩
    have Ra' := Aside0.mk (Kd.R_below Ra.out b)
    clear Ra
    have Ra := Ra'
    clear Ra'
    have Rb' := Aside0.mk (Kd.R_below Rb.out b)
    clear Rb
    have Rb := Rb'
    clear Rb'
    have Rc5' := Aside0.mk (Kd.R_below Rc5.out b)
    clear Rc5
    have Rc5 := Rc5'
    clear Rc5'
    have Rc16' := Aside0.mk (Kd.R_below Rc16.out b)
    clear Rc16
    have Rc16 := Rc16'
    clear Rc16'
    have Rd5' := Aside0.mk (Kd.R_below Rd5.out b)
    clear Rd5
    have Rd5 := Rd5'
    clear Rd5'
    have Rd16' := Aside0.mk (Kd.R_below Rd16.out b)
    clear Rd16
    have Rd16 := Rd16'
    clear Rd16'
    have K' := Aside0.mk (K.out.call (below_size K.out.below) b)
    clear K
    have K := K'
    clear K'
    clear b 
    go_wp2_with (first | ((with_reducible refine gate_dst (N := 59) rfl ?_); (try (refine gate_guard (by rfl) ?_; dsimp only)); refine load_ev rfl 55 (.tmp 9) rfl rfl (K.out.get 1 rfl) Try.underlying55 rfl ?_) | ((with_reducible refine gate_dst (N := 60) rfl ?_); (try (refine gate_guard (by rfl) ?_; dsimp only)); refine load_ev rfl 55 (.tmp 11) rfl rfl (K.out.get 0 rfl) Try.underlying55 rfl ?_) | (go_at_call 32; fail))
    refine (waveletref23_SameParams.same s0 s1 s2 s3 s4 s5 s6 s7 s8 s9 s10 s11 s12 s13 s14 s15 s16 s17 s18 Ac5 cc5 Ac16 cc16 Ad5 cd5 Ad16 cd16 _ (Kd.R_reads' Rc5.out).2.2 (Kd.R_reads' Rc16.out).2.2 (Kd.R_reads' Rd5.out).2.2 (Kd.R_reads' Rd16.out).2.2).mono ?_
    rintro _ w8 ⟨rfl, b⟩
    have Ra' := Aside0.mk (Kd.R_below Ra.out b)
    clear Ra
    have Ra := Ra'
    clear Ra'
    have Rb' := Aside0.mk (Kd.R_below Rb.out b)
    clear Rb
    have Rb := Rb'
    clear Rb'
    have Rc5' := Aside0.mk (Kd.R_below Rc5.out b)
    clear Rc5
    have Rc5 := Rc5'
    clear Rc5'
    have Rc16' := Aside0.mk (Kd.R_below Rc16.out b)
    clear Rc16
    have Rc16 := Rc16'
    clear Rc16'
    have Rd5' := Aside0.mk (Kd.R_below Rd5.out b)
    clear Rd5
    have Rd5 := Rd5'
    clear Rd5'
    have Rd16' := Aside0.mk (Kd.R_below Rd16.out b)
    clear Rd16
    have Rd16 := Rd16'
    clear Rd16'
    have K' := Aside0.mk (K.out.call (below_size K.out.below) b)
    clear K
    have K := K'
    clear K'
    clear b 
    go_wp2_with (go_at_call 12; refine (waveletlaw29_awake.calls k true _ HA.out).mono ?_; rintro _ w' ⟨rfl, b⟩; have Kw := Aside0.mk (K.out.call (below_size K.out.below) b); clear b)
    go_ret
    exact ⟨rfl, Kw.out.below⟩
end Go.Proofs.Ytihfopblmjgfaaa.Q

/- What the functions of chapter 29 compute, in plain lists and numbers: used by the pure laws of this chapter. -/
namespace Go.Proofs.Ytihfopblmjgfaaa.Pure
open Go.RowKit Go.Proofs.Ytihfopblmjgfaaa.Q Go.Proofs.YtihfopblmjgfaaaW.PrintWords
set_option linter.unusedVariables false

theorem awake_holds : ∃ k, waveletlaw29_awake.f k = some true := ⟨100, by kernel_rfl⟩
theorem wf_bd {a : Int} (h : (Lit.int .i64 a).wf = true) : -9223372036854775808 ≤ a ∧ a ≤ 9223372036854775807 := by
  simp [Lit.wf, IntKind.min, IntKind.max, IntKind.signed, IntKind.bits] at h
  omega
theorem wf_u8 {a : Int} (h : (Lit.int .u8 a).wf = true) : 0 ≤ a ∧ a ≤ 255 := by
  simp [Lit.wf, IntKind.min, IntKind.max, IntKind.signed, IntKind.bits] at h
  omega

/-- One byte more. -/
def step (v x : Int) : Int := Go.bits .or .i64 (wrap64 (v * 256)) (wrap64 x)
theorem step_eq {v x : Int} (h0 : 0 ≤ v) (h1 : v < 16777216) (h2 : 0 ≤ x) (h3 : x ≤ 255) : step v x = v * 256 + x := by
  unfold step
  rw [show wrap64 (v * 256) = v * 256 by unfold wrap64; omega, show wrap64 x = x by unfold wrap64; omega]
  exact bits_join .i64 40 (by decide) (fun n a b => by rw [IntKind.wrap_i64]; omega) 8 _ _ (by omega) (by omega) (by omega) h2 (by omega) (by omega)
/-- The number of some bytes. -/
def num (l : List Int) : Int := l.foldl step 0
/-- What ReadUint returns. -/
def RU (l : List Int) (at_ n : Int) : Int × Int :=
  if n < 1 ∨ 4 < n ∨ at_ < 0 ∨ (l.length : Int) < at_ then (0, 2) else if (l.length : Int) - at_ < n then (0, 7) else (num ((l.take (at_ + n).toNat).drop at_.toNat), 0)
theorem ru_loop (m : List Int) (hm : m.length ≤ 4) (d : Nat) : ∀ (k j : Nat) (v : Int), j + d = m.length → marker_ReadUint.l0 (k + d + 1) v m (m.length : Int) (j : Int) = some ((m.drop j).foldl step v, 0) := by
  induction d with
  | zero =>
    intro k j v hj
    rw [show k + 0 + 1 = k + 1 from rfl, marker_ReadUint.l0, if_neg (by omega), List.drop_eq_nil_of_le (by omega)]
    rfl
  | succ d ih =>
    intro k j v hj
    have hlt : j < m.length := by omega
    rw [show k + (d + 1) + 1 = (k + d + 1) + 1 by omega, marker_ReadUint.l0, if_pos (by omega), if_pos (by omega), if_pos (by omega), List.drop_eq_getElem_cons hlt]
    rw [show wrap64 ((j : Int) + 1) = ((j + 1 : Nat) : Int) by unfold wrap64; omega, ih k (j + 1) _ (by omega)]
    unfold rd
    rw [Int.toNat_natCast, List.getD_eq_getElem?_getD, List.getElem?_eq_getElem hlt]
    rfl
theorem ru_eq (l : List Int) (at_ n : Int) (hl : l.length ≤ 1000000) (hat : at_ ≤ 9223372036854775807) (k : Nat) : marker_ReadUint.f (k + 6) l at_ n = some (RU l at_ n) := by
  have hj : marker_ReadUint.j0 (k + 6) l at_ n true = some (0, 2) := by rw [show k + 6 = (k + 5) + 1 from rfl, marker_ReadUint.j0, if_pos rfl]
  unfold marker_ReadUint.f RU
  by_cases h1 : n < 1
  · rw [if_pos h1, if_pos (.inl h1), hj]
  rw [if_neg h1]
  by_cases h2 : n > 4
  · rw [if_pos h2, if_pos (.inr (.inl h2)), hj]
  rw [if_neg h2]
  by_cases h3 : at_ < 0
  · rw [if_pos h3, if_pos (.inr (.inr (.inl h3))), hj]
  rw [if_neg h3]
  by_cases h4 : (l.length : Int) < at_
  · rw [show decide (at_ > (l.length : Int)) = true from decide_eq_true h4, if_pos (.inr (.inr (.inr h4))), hj]
  rw [show decide (at_ > (l.length : Int)) = false from decide_eq_false h4, if_neg (by omega), show k + 6 = (k + 5) + 1 from rfl, marker_ReadUint.j0, if_neg (by simp)]
  rw [show wrap64 ((l.length : Int) - at_) = (l.length : Int) - at_ by unfold wrap64; omega, show wrap64 (at_ + n) = at_ + n by unfold wrap64; omega]
  by_cases h5 : (l.length : Int) - at_ < n
  · rw [if_pos h5, if_pos h5]
  rw [if_neg h5, if_neg h5, if_pos (by omega), if_pos (by omega), if_pos (by omega)]
  have hm : ((l.take (at_ + n).toNat).drop at_.toNat).length = n.toNat := by rw [List.length_drop, List.length_take]; omega
  have := ru_loop ((l.take (at_ + n).toNat).drop at_.toNat) (by omega) n.toNat (k + (4 - n.toNat)) 0 0 (by omega)
  rw [show k + (4 - n.toNat) + n.toNat + 1 = k + 5 by omega] at this
  rw [show (0 : Int) = ((0 : Nat) : Int) from rfl] at *
  rw [this]
  rfl
theorem shift_small (n : Nat) (h : n ≤ 4) : IntKind.u64.wrap (wrap64 (8 * (n : Int))) = ((8 * n : Nat) : Int) := by
  have : IntKind.u64.wrap (wrap64 (8 * (n : Int))) = wrap64 (8 * (n : Int)) % 18446744073709551616 := by simp [IntKind.wrap, IntKind.bits, IntKind.signed]
  rw [this]
  unfold wrap64
  omega

/-- The bytes of a number, the highest first. -/
def be (v : Int) : Nat → List Int
  | 0 => []
  | i + 1 => (v / 2 ^ (8 * i)) % 256 :: be v i
theorem be_length (v : Int) : ∀ n, (be v n).length = n
  | 0 => rfl
  | n + 1 => by simp [be, be_length v n]
theorem shr_eq (v : Int) (m : Nat) (hm : m ≤ 8) : shr .i64 v ((8 * m : Nat) : Int) = v / 2 ^ (8 * m) := by
  unfold shr
  rw [Int.toNat_natCast, Nat.min_eq_left (by show 8 * m ≤ 64; omega)]
theorem shift_eq (n : Nat) (h : n ≤ 8) : IntKind.u64.wrap (wrap64 (8 * (n : Int))) = ((8 * n : Nat) : Int) := by
  have : IntKind.u64.wrap (wrap64 (8 * (n : Int))) = wrap64 (8 * (n : Int)) % 18446744073709551616 := by simp [IntKind.wrap, IntKind.bits, IntKind.signed]
  rw [this]
  unfold wrap64
  omega
theorem put_loop (v : Int) (m : Nat) (hm : m ≤ 8) : ∀ (k : Nat) (acc : List Int), acc.length + m ≤ 140737488355328 → headseg_put.l0 (k + m + 1) acc v ((m : Int) - 1) = some (acc ++ be v m) := by
  induction m with
  | zero =>
    intro k acc ha
    rw [show k + 0 + 1 = k + 1 from rfl, headseg_put.l0, if_neg (by omega)]
    simp [be]
  | succ m ih =>
    intro k acc ha
    rw [show k + (m + 1) + 1 = (k + m + 1) + 1 by omega, headseg_put.l0, if_pos (by omega), show (((m + 1 : Nat) : Int) - 1) = (m : Int) by omega, shift_eq m (by omega), if_pos (by omega), if_pos (by omega), show wrap64 ((m : Int) - 1) = (m : Int) - 1 by unfold wrap64; omega]
    rw [shr_eq v m (by omega), ih (by omega) k _ (by simp; omega)]
    simp [be]
theorem put_eq (acc : List Int) (v : Int) (n : Nat) (hn : n ≤ 8) (ha : acc.length + n ≤ 140737488355328) (k : Nat) : headseg_put.f (k + 9) acc (n : Int) v = some (acc ++ be v n) := by
  unfold headseg_put.f
  rw [show wrap64 ((n : Int) - 1) = (n : Int) - 1 by unfold wrap64; omega]
  have := put_loop v n hn (k + (8 - n)) acc ha
  rwa [show k + (8 - n) + n + 1 = k + 9 by omega] at this
/-- What within returns. -/
def inside (lo hi : Int) (l : List Int) : Bool := l.all fun x => decide (lo ≤ x) && decide (x ≤ hi)
theorem within_loop (lo hi : Int) (l : List Int) (hl : l.length ≤ 9223372036854775807) (d : Nat) : ∀ (k j : Nat), j + d = l.length → headseg_within.l0 (k + d + 1) lo hi l (l.length : Int) (j : Int) = some (inside lo hi (l.drop j)) := by
  induction d with
  | zero =>
    intro k j hj
    rw [show k + 0 + 1 = k + 1 from rfl, headseg_within.l0, if_neg (by omega), List.drop_eq_nil_of_le (by omega)]
    rfl
  | succ d ih =>
    intro k j hj
    have hlt : j < l.length := by omega
    have hrd : rd l (j : Int) = l[j] := by
      unfold rd
      rw [Int.toNat_natCast, List.getD_eq_getElem?_getD, List.getElem?_eq_getElem hlt]
      rfl
    rw [show k + (d + 1) + 1 = (k + d + 1) + 1 by omega, headseg_within.l0, if_pos (by omega), if_pos (by omega), if_pos (by omega), hrd, List.drop_eq_getElem_cons hlt]
    rw [show wrap64 ((j : Int) + 1) = ((j + 1 : Nat) : Int) by unfold wrap64; omega, ih k (j + 1) (by omega)]
    unfold inside
    rw [List.all_cons]
    by_cases h1 : l[j] < lo
    · rw [if_pos h1, decide_eq_false (show ¬ lo ≤ l[j] by omega)]; rfl
    · rw [if_neg h1, decide_eq_true (show lo ≤ l[j] by omega)]
      by_cases h2 : l[j] > hi
      · rw [if_pos h2, decide_eq_false (show ¬ l[j] ≤ hi by omega)]; rfl
      · rw [if_neg h2, decide_eq_true (show l[j] ≤ hi by omega)]; rfl
theorem within_eq (lo hi : Int) (l : List Int) (hl : l.length ≤ 9223372036854775807) (k : Nat) : headseg_within.f (k + l.length + 1) lo hi l = some (inside lo hi l) := by
  have := within_loop lo hi l hl l.length k 0 (by omega)
  simpa [headseg_within.f] using this
end Go.Proofs.Ytihfopblmjgfaaa.Pure

/- What the reference's small functions of chapter 29 compute: the same. -/
namespace Go.Proofs.Ytihfopblmjgfaaa.Pure
open Go.RowKit Go.Proofs.Ytihfopblmjgfaaa.Q Go.Proofs.YtihfopblmjgfaaaW.PrintWords
set_option linter.unusedVariables false

theorem rin_eq (a lo hi : Int) : waveletref29_in.f a lo hi = some (decide (lo ≤ a) && decide (a ≤ hi)) := by
  unfold waveletref29_in.f
  by_cases h : lo ≤ a
  · rw [if_pos h, decide_eq_true h]; rfl
  · rw [if_neg h, decide_eq_false h]; rfl
theorem rshift_eq (n : Nat) (h : n ≤ 8) : wrap64 (8 * (n : Int)) = ((8 * n : Nat) : Int) := by
  unfold wrap64
  omega
theorem rput_loop (v : Int) (m : Nat) (hm : m ≤ 8) : ∀ (k : Nat) (acc : List Int), acc.length + m ≤ 140737488355328 → waveletref29_put.l0 (k + m + 1) acc v ((m : Int) - 1) = some (acc ++ be v m) := by
  induction m with
  | zero =>
    intro k acc ha
    rw [show k + 0 + 1 = k + 1 from rfl, waveletref29_put.l0, if_neg (by omega)]
    simp [be]
  | succ m ih =>
    intro k acc ha
    rw [show k + (m + 1) + 1 = (k + m + 1) + 1 by omega, waveletref29_put.l0, if_pos (by omega), show (((m + 1 : Nat) : Int) - 1) = (m : Int) by omega, rshift_eq m (by omega), if_pos (by omega), if_pos (by omega), show wrap64 ((m : Int) - 1) = (m : Int) - 1 by unfold wrap64; omega]
    rw [shr_eq v m (by omega), ih (by omega) k _ (by simp; omega)]
    simp [be]
theorem rput_eq (acc : List Int) (v : Int) (n : Nat) (hn : n ≤ 8) (ha : acc.length + n ≤ 140737488355328) (k : Nat) : waveletref29_put.f (k + 9) acc v (n : Int) = some (acc ++ be v n) := by
  unfold waveletref29_put.f
  rw [show wrap64 ((n : Int) - 1) = (n : Int) - 1 by unfold wrap64; omega]
  have := rput_loop v n hn (k + (8 - n)) acc ha
  rwa [show k + (8 - n) + n + 1 = k + 9 by omega] at this
/-- Some bytes of a list of bytes. -/
def sub (l : List Int) (a n : Nat) : List Int := (l.take (a + n)).drop a
theorem sub_length (l : List Int) (a n : Nat) (h : a + n ≤ l.length) : (sub l a n).length = n := by
  unfold sub
  rw [List.length_drop, List.length_take]
  omega
theorem rd_bytes {l : List Int} (hb : ∀ x ∈ l, (Lit.int .u8 x).wf = true) (i : Nat) (hi : i < l.length) : rd l (i : Int) = l[i] ∧ 0 ≤ l[i] ∧ l[i] ≤ 255 := by
  refine ⟨?_, wf_u8 (hb _ (List.getElem_mem hi))⟩
  unfold rd
  rw [Int.toNat_natCast, List.getD_eq_getElem?_getD, List.getElem?_eq_getElem hi]
  rfl
theorem get_loop {l : List Int} (hb : ∀ x ∈ l, (Lit.int .u8 x).wf = true) (hl : l.length ≤ 1000000) (a n : Nat) (hn : n ≤ 4) (han : a + n ≤ l.length) (d : Nat) : ∀ (k j : Nat) (v : Int), j + d = n → 0 ≤ v → v < 256 ^ j →
    waveletref29_get.l0 (k + d + 1) l (a : Int) (n : Int) v (j : Int) = some (((sub l a n).drop j).foldl step v) := by
  have hm := sub_length l a n han
  induction d with
  | zero =>
    intro k j v hj _ _
    rw [show k + 0 + 1 = k + 1 from rfl, waveletref29_get.l0, if_neg (by omega), List.drop_eq_nil_of_le (by omega)]
    rfl
  | succ d ih =>
    intro k j v hj h0 h1
    have hlt : j < (sub l a n).length := by omega
    have hi : a + j < l.length := by omega
    obtain ⟨hrd, hx0, hx1⟩ := rd_bytes hb (a + j) hi
    have he : (sub l a n)[j] = l[a + j] := by simp only [sub, List.getElem_drop, List.getElem_take]
    have hv : v < 16777216 := by
      have hj : j = 0 ∨ j = 1 ∨ j = 2 ∨ j = 3 := by omega
      rcases hj with rfl | rfl | rfl | rfl <;> simp at h1 <;> omega
    have hs : wrap64 (wrap64 (256 * v) + wrap64 l[a + j]) = step v l[a + j] := by
      rw [step_eq h0 hv hx0 hx1]
      unfold wrap64
      omega
    rw [show k + (d + 1) + 1 = (k + d + 1) + 1 by omega, waveletref29_get.l0, if_pos (by omega), show wrap64 ((a : Int) + (j : Int)) = ((a + j : Nat) : Int) by unfold wrap64; omega, if_pos (by omega), if_pos (by omega), hrd, hs, List.drop_eq_getElem_cons hlt]
    rw [show wrap64 ((j : Int) + 1) = ((j + 1 : Nat) : Int) by unfold wrap64; omega, ih k (j + 1) _ (by omega) (by rw [step_eq h0 hv hx0 hx1]; omega) (by rw [step_eq h0 hv hx0 hx1, Int.pow_succ]; omega), he]
    rfl
theorem get_eq {l : List Int} (hb : ∀ x ∈ l, (Lit.int .u8 x).wf = true) (hl : l.length ≤ 1000000) (a n : Nat) (hn : n ≤ 4) (han : a + n ≤ l.length) (k : Nat) : waveletref29_get.f (k + 6) l (a : Int) (n : Int) = some (num (sub l a n)) := by
  have := get_loop hb hl a n hn han n (k + (5 - n)) 0 0 (by omega) (by omega) (by simp)
  rw [show k + (5 - n) + n + 1 = k + 6 by omega] at this
  simpa [waveletref29_get.f, num] using this
/-- ReadUint at a place within. -/
theorem RU_in (l : List Int) (a n : Nat) (h1 : 1 ≤ n) (hn : n ≤ 4) (han : a + n ≤ l.length) : RU l (a : Int) (n : Int) = (num (sub l a n), 0) := by
  unfold RU
  rw [if_neg (by omega), if_neg (by omega)]
  rfl
theorem RU_out (l : List Int) (a n : Nat) (h1 : 1 ≤ n) (hn : n ≤ 4) (ha : a ≤ l.length) (han : l.length < a + n) : RU l (a : Int) (n : Int) = (0, 7) := by
  unfold RU
  rw [if_neg (by omega), if_pos (by omega)]
theorem same_loop (a : List Int) (ha : a.length ≤ 1000000000000) (d : Nat) : ∀ (k j : Nat), j + d = a.length → waveletlaw29_same.l0 (k + d + 1) a a (a.length : Int) (j : Int) = some true := by
  induction d with
  | zero =>
    intro k j hj
    rw [show k + 0 + 1 = k + 1 from rfl, waveletlaw29_same.l0, if_neg (by omega)]
  | succ d ih =>
    intro k j hj
    rw [show k + (d + 1) + 1 = (k + d + 1) + 1 by omega, waveletlaw29_same.l0, if_pos (by omega), if_pos (by omega), if_pos (by omega), if_pos (by omega), if_pos rfl]
    rw [show wrap64 ((j : Int) + 1) = ((j + 1 : Nat) : Int) by unfold wrap64; omega, ih k (j + 1) (by omega)]
theorem same_refl (a : List Int) (ha : a.length ≤ 1000000000000) (k : Nat) : waveletlaw29_same.f (k + a.length + 1) a a = some true := by
  have := same_loop a ha a.length k 0 (by omega)
  simpa [waveletlaw29_same.f] using this
theorem sameSegment_refl (c : Int) (a : List Int) (ha : a.length ≤ 1000000000000) (k : Nat) : waveletlaw29_sameSegment.f (k + a.length + 1) c a c a = some true := by
  unfold waveletlaw29_sameSegment.f
  rw [if_pos rfl, same_refl a ha k]
  rfl
theorem framed_eq (c : Int) (l : List Int) (code n : Int) : waveletref29_framed.f c l code n = some (if c = code then (if (l.length : Int) < n then 7 else if (l.length : Int) > n then 9 else 0) else 11) := by
  unfold waveletref29_framed.f
  repeat' split
  all_goals rfl
end Go.Proofs.Ytihfopblmjgfaaa.Pure
