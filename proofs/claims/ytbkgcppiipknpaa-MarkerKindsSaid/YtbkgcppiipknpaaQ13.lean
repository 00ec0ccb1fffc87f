-- By a program of this session (wip/tools/mk.py), out of the kit's print of the translation; Lean checks it.
import Derived.Test.YtbkgcppiipknpaaQ0
import Derived.Test.YtbkgcppiipknpaaQ1
import Derived.Test.YtbkgcppiipknpaaQ2
import Derived.Test.YtbkgcppiipknpaaQ3
import Derived.Test.YtbkgcppiipknpaaQ4
import Derived.Test.YtbkgcppiipknpaaQ12
namespace Go.Proofs.Ytbkgcppiipknpaa.Q
open Go.RowKit Go.Proofs.YtbkgcppiipknpaaW.PrintWords Go.Proofs.YtbkgcppiipknpaaW.PrintLast Go.Proofs.YtbkgcppiipknpaaW.PrintMore
attribute [local go_sem] max2_int min2_int max_two min_two max_three min_three max_four min_four   -- for this text's walks alone
set_option linter.unusedVariables false
set_option linter.unusedSimpArgs false

/-! ### waveletlaw28_MarkerKinds: function 3 -/
def waveletlaw28_MarkerKinds.f (k : Nat) (a0 : Int) : Option (Bool) := (marker_Known.f a0).bind fun t200 => ((waveletref28_Known.f a0).bind fun t201 => (if (t200 == t201) = true then ((marker_Bare.f a0).bind fun t202 => ((waveletref28_Bare.f a0).bind fun t203 => (if (t202 == t203) = true then ((waveletlaw28_exampleHolds.f k).bind fun t204 => (some t204)) else (some false)))) else (some false)))
theorem waveletlaw28_MarkerKinds.mono : ∀ a0 k, LeO (waveletlaw28_MarkerKinds.f k a0) (waveletlaw28_MarkerKinds.f (k + 1) a0) := by
  intro a0 k
  unfold waveletlaw28_MarkerKinds.f
  repeat' first
      | (with_reducible exact waveletlaw28_exampleHolds.mono _)
      | (with_reducible exact LeO.refl _)
      | (with_reducible exact LeO.none _)
      | (with_reducible refine LeO.ite ?_ ?_)
      | (with_reducible refine LeO.bind ?_ (fun _ => ?_))
      | exact waveletlaw28_exampleHolds.mono _
      | exact LeO.none _
      | refine LeO.ite ?_ ?_
      | refine LeO.bind ?_ (fun _ => ?_)
set_option maxHeartbeats 8000000 in
set_option maxRecDepth 100000 in
theorem waveletlaw28_MarkerKinds.calls (k : Nat) (a0 : Int) (r : Bool) (hr_ : r = true) (w : World) (h : waveletlaw28_MarkerKinds.f k a0 = some r) :
    Calls Try.prog 3 #[.int .i64 a0] w fun e w' => e = .returned (.bool r) ∧ Below w.heap.size w w' := by
  have HB := Aside0.mk (Below.refl w.heap.size w)
  have H : ((marker_Known.f a0).bind fun t200 => ((waveletref28_Known.f a0).bind fun t201 => (if (t200 == t201) = true then ((marker_Bare.f a0).bind fun t202 => ((waveletref28_Bare.f a0).bind fun t203 => (if (t202 == t203) = true then ((waveletlaw28_exampleHolds.f k).bind fun t204 => (some t204)) else (some false)))) else (some false)))) = some r := h
  clear h
  replace H := Option.bind_eq_some_iff.mp H
  obtain ⟨t200, A20, H⟩ := H
  replace H : ((waveletref28_Known.f a0).bind fun t201 => (if (t200 == t201) = true then ((marker_Bare.f a0).bind fun t202 => ((waveletref28_Bare.f a0).bind fun t203 => (if (t202 == t203) = true then ((waveletlaw28_exampleHolds.f k).bind fun t204 => (some t204)) else (some false)))) else (some false))) = some r := H
  have A2 := Aside0.mk A20
  clear A20
  replace H := Option.bind_eq_some_iff.mp H
  obtain ⟨t201, A30, H⟩ := H
  replace H : (if (t200 == t201) = true then ((marker_Bare.f a0).bind fun t202 => ((waveletref28_Bare.f a0).bind fun t203 => (if (t202 == t203) = true then ((waveletlaw28_exampleHolds.f k).bind fun t204 => (some t204)) else (some false)))) else (some false)) = some r := H
  have A3 := Aside0.mk A30
  clear A30
  by_cases c4 : (t200 == t201) = true
  · rw [if_pos c4] at H
    have c4b0 : (t200 == t201) = true := c4
    (try (have c4b1 : decide (t200 = t201) = true := by simpa using c4))
    (try (have c4b2 : (t200 == t201) = true := by simpa using c4))
    clear c4
    replace H := Option.bind_eq_some_iff.mp H
    obtain ⟨t202, A50, H⟩ := H
    replace H : ((waveletref28_Bare.f a0).bind fun t203 => (if (t202 == t203) = true then ((waveletlaw28_exampleHolds.f k).bind fun t204 => (some t204)) else (some false))) = some r := H
    have A5 := Aside0.mk A50
    clear A50
    replace H := Option.bind_eq_some_iff.mp H
    obtain ⟨t203, A60, H⟩ := H
    replace H : (if (t202 == t203) = true then ((waveletlaw28_exampleHolds.f k).bind fun t204 => (some t204)) else (some false)) = some r := H
    have A6 := Aside0.mk A60
    clear A60
    by_cases c7 : (t202 == t203) = true
    · rw [if_pos c7] at H
      have c7b0 : (t202 == t203) = true := c7
      (try (have c7b1 : decide (t202 = t203) = true := by simpa using c7))
      (try (have c7b2 : (t202 == t203) = true := by simpa using c7))
      clear c7
      replace H := Option.bind_eq_some_iff.mp H
      obtain ⟨t204, A80, H⟩ := H
      replace H : (some t204) = some r := H
      have A8 := Aside0.mk A80
      clear A80
      obtain rfl := Option.some.inj H
      go_enter Try.func3, Try.ntmps3
      go_wp2_with (first | ((with_reducible refine gate_callee (f := 10) rfl ?_); refine goesL_ (some 4) rfl rfl Try.func10 (by kernel_rfl) rfl #[.int .i64 a0] rfl (by (try simp only [List.map_toArray, List.map_cons, List.map_nil]); first | done | rfl | (simp only [List.length_drop, List.length_take]; rfl)) ?_; (with_reducible refine (marker_Known.calls a0 t200 _ A2.out).mono ?_); rintro e w' ⟨rfl, ⟨nd, rfl⟩⟩; refine ⟨_, rfl, ?_⟩) | ((with_reducible refine gate_callee (f := 11) rfl ?_); refine goesL_ (some 6) rfl rfl Try.func11 (by kernel_rfl) rfl #[.int .i64 a0] rfl (by (try simp only [List.map_toArray, List.map_cons, List.map_nil]); first | done | rfl | (simp only [List.length_drop, List.length_take]; rfl)) ?_; (with_reducible refine (waveletref28_Known.calls a0 t201 _ A3.out).mono ?_); rintro e w' ⟨rfl, ⟨nd, rfl⟩⟩; refine ⟨_, rfl, ?_⟩) | (go_at_call 12; (with_reducible refine (marker_Bare.calls a0 t202 _ A5.out).mono ?_); rintro e w' ⟨rfl, ⟨nd, rfl⟩⟩) | (go_at_call 13; (with_reducible refine (waveletref28_Bare.calls a0 t203 _ A6.out).mono ?_); rintro e w' ⟨rfl, ⟨nd, rfl⟩⟩) | (go_at_call 14; (with_reducible refine (waveletlaw28_exampleHolds.calls k  t204 _ A8.out).mono ?_); rintro e w9 ⟨rfl, hb⟩; have n0_ := Aside0.mk (below_step (by repeat (first | (with_reducible first | exact HB.out | apply below_alloc | apply pw_below_drewN | apply below_drew1) | exact HB.out)) hb); clear HB; have HB := n0_; clear n0_; (try clear hb); (try clear hb2); (try clear hk); (try clear hi)))
      go_ret
      exact ⟨by first | rfl | (simp [errW_none, errW_some] <;> rfl) | (simp [*, errW_none, errW_some] <;> rfl), by repeat (first | (with_reducible first | exact HB.out | apply below_alloc | apply pw_below_drewN | apply below_drew1) | exact HB.out)⟩
    · rw [if_neg c7] at H
      exact absurd (Option.some.inj H) (by rw [hr_]; decide)
  · rw [if_neg c4] at H
    exact absurd (Option.some.inj H) (by rw [hr_]; decide)
/-- THE ONE PURE STATEMENT of waveletlaw28_MarkerKinds: yours. -/
def waveletlaw28_MarkerKinds.Pure : Prop := ∀ (a0 : Int), (Lit.int .i64 a0).wf = true → ∃ k, waveletlaw28_MarkerKinds.f k a0 = some true
end Go.Proofs.Ytbkgcppiipknpaa.Q
