/- The row of MetricsCompares, out of its pure law (Pure.MetricsCompares) and the contract of the function; no condition. Written by wip/tools/lawrow.py of this session. -/
import Derived.Test.YtfihdlekeainpaaRows
import Derived.Test.YtfihdlekeainpaaQ36
import Derived.Test.YtfihdlekeainpaaPureMetricsCompares
import Derived.Test.YtfihdlekeainpaaOpen
import Derived.WalkKit
import Derived.ProofKit
import Derived.OpenShut
import Derived.ShutString
import Derived.ChangeOld
import Derived.Below
import Derived.SizedLaws
import Derived.Carry
namespace Go.Proofs.Ytfihdlekeainpaa.metricsCompares
open Go.ChangeShapes Go.WideShapes Go.ChangeAt Go.RowKit Go.Proofs.Ytfihdlekeainpaa.Q Go.Proofs.YtfihdlekeainpaaW.PrintWords Go.Proofs.Ytfihdlekeainpaa.Open
open Go.ChangeMaps (open_string shut_string)
set_option linter.unusedVariables false
theorem own : ownKnob Try.prog.godebug = none := by kernel_rfl
theorem laidOut : laidOutB Try.prog = true := by kernel_rfl
theorem o51 : Opens Try.prog 51 k51 (fun x => ((Lit.int .i64 x.f0).wf = true ∧ True ∧ (Lit.int .i64 x.f2).wf = true ∧ (Lit.int .i64 x.f3).wf = true)) := by
  have h := opens_struct (β := S51) Try.underlying51 (by kernel_rfl) (parts_cons (opens_int Try.underlying3 (by kernel_rfl)) rfl (parts_cons (opens_bool Try.underlying4 (by kernel_rfl)) rfl (parts_cons (opens_int Try.underlying3 (by kernel_rfl)) rfl (parts_one (opens_int Try.underlying3 (by kernel_rfl)) rfl (by kernel_rfl))))) (fun x => (x.f0, x.f1, x.f2, x.f3)) (fun v => ⟨v.1, v.2.1, v.2.2.1, v.2.2.2⟩) (fun _ => rfl)
  exact h
theorem o23 : Opens Try.prog 23 k23 (fun x => ((Lit.int .i64 x.f0).wf = true ∧ (Lit.int .i64 x.f1).wf = true ∧ (Lit.int .i64 x.f2).wf = true ∧ (Lit.int .i64 x.f3).wf = true)) := by
  have h := opens_struct (β := S23) Try.underlying23 (by kernel_rfl) (parts_cons (opens_int Try.underlying3 (by kernel_rfl)) rfl (parts_cons (opens_int Try.underlying3 (by kernel_rfl)) rfl (parts_cons (opens_int Try.underlying3 (by kernel_rfl)) rfl (parts_one (opens_int Try.underlying3 (by kernel_rfl)) rfl (by kernel_rfl))))) (fun x => (x.f0, x.f1, x.f2, x.f3)) (fun v => ⟨v.1, v.2.1, v.2.2.1, v.2.2.2⟩) (fun _ => rfl)
  exact h
theorem o42 : Opens Try.prog 42 k42 (fun x => (((Lit.int .i64 x.f0.f0).wf = true ∧ (Lit.int .i64 x.f0.f1).wf = true ∧ (Lit.int .i64 x.f0.f2).wf = true ∧ (Lit.int .i64 x.f0.f3).wf = true) ∧ (x.f1.length * 8 ≤ 140737488351232 ∧ ∀ x_ ∈ x.f1, (Lit.int .i64 x_).wf = true))) := by
  have h := opens_struct (β := S42) Try.underlying42 (by kernel_rfl) (parts_cons o23 rfl (parts_one (opens_slice (B := 8) Try.underlying40 (by kernel_rfl) (by kernel_rfl) (opens_int Try.underlying3 (by kernel_rfl))) rfl (by kernel_rfl))) (fun x => (x.f0, x.f1)) (fun v => ⟨v.1, v.2⟩) (fun _ => rfl)
  exact h
set_option maxRecDepth 100000 in
theorem lifted (os : Os) (started : os.Started) (H : Type) (enc : TypeId × Value → H) :
    ReturnsInHanded {} Try.checked os 4 .any (Rows.metricsComparesSpec.pre6 enc Try.prog Try.f4 Rows.metricsComparesRow.domain false) (Rows.metricsComparesSpec.post enc Try.prog Try.f4 false true false false) := by
  refine returnsInHanded_of_change_sized (C := Try.checked) own started (by kernel_rfl) Try.func4
    (ChangeSpec.witness6 (enc := enc) (C := Try.checked) false ⟨#[], #[.agg #[.int .i64 0, .int .i64 0, .int .i64 0, .int .i64 0, .int .i64 0, .int .i64 0, .slice none 0 0, .slice none 0 0], .agg #[.int .i64 0, .int .i64 0, .int .i64 0, .int .i64 0, .int .i64 0, .int .i64 0, .slice none 0 0, .slice none 0 0], .agg #[.int .i64 0, .int .i64 0, .int .i64 0, .int .i64 0, .int .i64 0, .int .i64 0, .slice none 0 0, .slice none 0 0]], []⟩ 8 (by kernel_rfl) (by kernel_rfl) (by kernel_rfl) (by kernel_rfl)) ?_
  intro W base args ds gs before hval0 hW hcnd hsz0 _
  have hsz : (DataW.weightsEach Try.prog (Try.f4.params.toList ++ Rows.metricsComparesSpec.plain.varTypes Try.prog) (ds ++ gs)).all (· ≤ reachBytes) = true := hsz0
  have hval : ∀ (j : Nat) t v, Try.f4.params[j]? = some t → args[j]? = some v → Value.okWide Try.prog W .any base t v := hval0
  have hW' := hW
  obtain ⟨p, q, hA0, hV, rfl, hfz, hnd⟩ := hW
  have hA : DataW.TrodAll enc Try.prog W 0 (fun _ => true) true Try.f4.params.toList args.toList ds p := hA0
  rw [Try.params4] at hA hval hsz
  obtain ⟨v0, vs0, d0, ds0, p0, q0, hargs, rfl, rfl, h0, r0⟩ := trodAll_cons hA
  obtain ⟨v1, vs1, d1, ds1, p1, q1, rfl, rfl, rfl, h1, r1⟩ := trodAll_cons r0
  obtain ⟨v2, vs2, d2, ds2, p2, q2, rfl, rfl, rfl, h2, r2⟩ := trodAll_cons r1
  obtain ⟨rfl, rfl, rfl⟩ := trodAll_nil r2
  obtain rfl : args = #[v0, v1, v2] := by cases args; simp_all
  obtain ⟨rfl, rfl⟩ := trodVars_none hV
  have k0 := h0
  have lt0 : ∀ x ∈ p0, x.block < W.heap.size := by obtain ⟨m, hm⟩ := k0; exact DataW.trod_lt m _ _ _ hm
  have li0 := light_of hsz (j := 0) (t := 29) rfl rfl
  obtain ⟨fu0, hf0⟩ := h0
  obtain ⟨v0_, hK0, hok0⟩ := (opens_struct Try.underlying29 (by kernel_rfl) (parts_cons (opens_struct Try.underlying26 (by kernel_rfl) (parts_cons (opens_struct Try.underlying23 (by kernel_rfl) (parts_cons (opens_int Try.underlying3 (by kernel_rfl)) rfl (parts_cons (opens_int Try.underlying3 (by kernel_rfl)) rfl (parts_cons (opens_int Try.underlying3 (by kernel_rfl)) rfl (parts_one (opens_int Try.underlying3 (by kernel_rfl)) rfl (by kernel_rfl))))) (fun v => v) (fun v => v) (fun _ => rfl)) rfl (parts_cons (opens_int Try.underlying3 (by kernel_rfl)) rfl (parts_cons (opens_int Try.underlying3 (by kernel_rfl)) rfl (parts_one (opens_slice (B := 32) Try.underlying24 (by kernel_rfl) (by kernel_rfl) o51) rfl (by kernel_rfl))))) (fun v => v) (fun v => v) (fun _ => rfl)) rfl (parts_one (opens_slice (B := 56) Try.underlying27 (by kernel_rfl) (by kernel_rfl) o42) rfl (by kernel_rfl))) (fun v => v) (fun v => v) (fun _ => rfl)).opens hf0 li0
  obtain ⟨cs0, rfl, _⟩ := okWide_struct Try.underlying29 (hval 0 29 v0 rfl rfl)
  obtain ⟨_, _, hcs0, ⟨_, _, rfl, ⟨_, _, rfl, rfl, ⟨_, _, rfl, rfl, ⟨_, _, rfl, rfl, rfl⟩⟩⟩, ⟨_, _, rfl, rfl, ⟨_, _, rfl, rfl, ⟨A0_6, c0_6, rfl, hl0_6, hC0_6⟩⟩⟩⟩, ⟨A0_7, c0_7, rfl, hl0_7, hC0_7⟩⟩ := hK0
  obtain rfl : cs0 = #[.int .i64 v0_.1.1.1, .int .i64 v0_.1.1.2.1, .int .i64 v0_.1.1.2.2.1, .int .i64 v0_.1.1.2.2.2, .int .i64 v0_.1.2.1, .int .i64 v0_.1.2.2.1, .slice A0_6 v0_.1.2.2.2.length c0_6, .slice A0_7 v0_.2.length c0_7] := by cases cs0; simpa [Value.cells] using hcs0
  clear hcs0
  obtain ⟨⟨⟨w0_0, w0_1, w0_2, w0_3⟩, w0_4, w0_5, ⟨y0_6, w0_6⟩⟩, ⟨y0_7, w0_7⟩⟩ := hok0
  have k1 := h1
  have lt1 : ∀ x ∈ p1, x.block < W.heap.size := by obtain ⟨m, hm⟩ := k1; exact DataW.trod_lt m _ _ _ hm
  have li1 := light_of hsz (j := 1) (t := 29) rfl rfl
  obtain ⟨fu1, hf1⟩ := h1
  obtain ⟨v1_, hK1, hok1⟩ := (opens_struct Try.underlying29 (by kernel_rfl) (parts_cons (opens_struct Try.underlying26 (by kernel_rfl) (parts_cons (opens_struct Try.underlying23 (by kernel_rfl) (parts_cons (opens_int Try.underlying3 (by kernel_rfl)) rfl (parts_cons (opens_int Try.underlying3 (by kernel_rfl)) rfl (parts_cons (opens_int Try.underlying3 (by kernel_rfl)) rfl (parts_one (opens_int Try.underlying3 (by kernel_rfl)) rfl (by kernel_rfl))))) (fun v => v) (fun v => v) (fun _ => rfl)) rfl (parts_cons (opens_int Try.underlying3 (by kernel_rfl)) rfl (parts_cons (opens_int Try.underlying3 (by kernel_rfl)) rfl (parts_one (opens_slice (B := 32) Try.underlying24 (by kernel_rfl) (by kernel_rfl) o51) rfl (by kernel_rfl))))) (fun v => v) (fun v => v) (fun _ => rfl)) rfl (parts_one (opens_slice (B := 56) Try.underlying27 (by kernel_rfl) (by kernel_rfl) o42) rfl (by kernel_rfl))) (fun v => v) (fun v => v) (fun _ => rfl)).opens hf1 li1
  obtain ⟨cs1, rfl, _⟩ := okWide_struct Try.underlying29 (hval 1 29 v1 rfl rfl)
  obtain ⟨_, _, hcs1, ⟨_, _, rfl, ⟨_, _, rfl, rfl, ⟨_, _, rfl, rfl, ⟨_, _, rfl, rfl, rfl⟩⟩⟩, ⟨_, _, rfl, rfl, ⟨_, _, rfl, rfl, ⟨A1_6, c1_6, rfl, hl1_6, hC1_6⟩⟩⟩⟩, ⟨A1_7, c1_7, rfl, hl1_7, hC1_7⟩⟩ := hK1
  obtain rfl : cs1 = #[.int .i64 v1_.1.1.1, .int .i64 v1_.1.1.2.1, .int .i64 v1_.1.1.2.2.1, .int .i64 v1_.1.1.2.2.2, .int .i64 v1_.1.2.1, .int .i64 v1_.1.2.2.1, .slice A1_6 v1_.1.2.2.2.length c1_6, .slice A1_7 v1_.2.length c1_7] := by cases cs1; simpa [Value.cells] using hcs1
  clear hcs1
  obtain ⟨⟨⟨w1_0, w1_1, w1_2, w1_3⟩, w1_4, w1_5, ⟨y1_6, w1_6⟩⟩, ⟨y1_7, w1_7⟩⟩ := hok1
  have k2 := h2
  have lt2 : ∀ x ∈ p2, x.block < W.heap.size := by obtain ⟨m, hm⟩ := k2; exact DataW.trod_lt m _ _ _ hm
  have li2 := light_of hsz (j := 2) (t := 29) rfl rfl
  obtain ⟨fu2, hf2⟩ := h2
  obtain ⟨v2_, hK2, hok2⟩ := (opens_struct Try.underlying29 (by kernel_rfl) (parts_cons (opens_struct Try.underlying26 (by kernel_rfl) (parts_cons (opens_struct Try.underlying23 (by kernel_rfl) (parts_cons (opens_int Try.underlying3 (by kernel_rfl)) rfl (parts_cons (opens_int Try.underlying3 (by kernel_rfl)) rfl (parts_cons (opens_int Try.underlying3 (by kernel_rfl)) rfl (parts_one (opens_int Try.underlying3 (by kernel_rfl)) rfl (by kernel_rfl))))) (fun v => v) (fun v => v) (fun _ => rfl)) rfl (parts_cons (opens_int Try.underlying3 (by kernel_rfl)) rfl (parts_cons (opens_int Try.underlying3 (by kernel_rfl)) rfl (parts_one (opens_slice (B := 32) Try.underlying24 (by kernel_rfl) (by kernel_rfl) o51) rfl (by kernel_rfl))))) (fun v => v) (fun v => v) (fun _ => rfl)) rfl (parts_one (opens_slice (B := 56) Try.underlying27 (by kernel_rfl) (by kernel_rfl) o42) rfl (by kernel_rfl))) (fun v => v) (fun v => v) (fun _ => rfl)).opens hf2 li2
  obtain ⟨cs2, rfl, _⟩ := okWide_struct Try.underlying29 (hval 2 29 v2 rfl rfl)
  obtain ⟨_, _, hcs2, ⟨_, _, rfl, ⟨_, _, rfl, rfl, ⟨_, _, rfl, rfl, ⟨_, _, rfl, rfl, rfl⟩⟩⟩, ⟨_, _, rfl, rfl, ⟨_, _, rfl, rfl, ⟨A2_6, c2_6, rfl, hl2_6, hC2_6⟩⟩⟩⟩, ⟨A2_7, c2_7, rfl, hl2_7, hC2_7⟩⟩ := hK2
  obtain rfl : cs2 = #[.int .i64 v2_.1.1.1, .int .i64 v2_.1.1.2.1, .int .i64 v2_.1.1.2.2.1, .int .i64 v2_.1.1.2.2.2, .int .i64 v2_.1.2.1, .int .i64 v2_.1.2.2.1, .slice A2_6 v2_.1.2.2.2.length c2_6, .slice A2_7 v2_.2.length c2_7] := by cases cs2; simpa [Value.cells] using hcs2
  clear hcs2
  obtain ⟨⟨⟨w2_0, w2_1, w2_2, w2_3⟩, w2_4, w2_5, ⟨y2_6, w2_6⟩⟩, ⟨y2_7, w2_7⟩⟩ := hok2
  clear hA0 hval0 hsz0 hsz
  obtain ⟨k, hp⟩ := Pure.MetricsCompares (v0_.1.1.1) (v0_.1.1.2.1) (v0_.1.1.2.2.1) (v0_.1.1.2.2.2) (v0_.1.2.1) (v0_.1.2.2.1) (v0_.1.2.2.2) (v0_.2) (v1_.1.1.1) (v1_.1.1.2.1) (v1_.1.1.2.2.1) (v1_.1.1.2.2.2) (v1_.1.2.1) (v1_.1.2.2.1) (v1_.1.2.2.2) (v1_.2) (v2_.1.1.1) (v2_.1.1.2.1) (v2_.1.1.2.2.1) (v2_.1.1.2.2.2) (v2_.1.2.1) (v2_.1.2.2.1) (v2_.1.2.2.2) (v2_.2) w0_0 w0_1 w0_2 w0_3 w0_4 w0_5 y0_6 w0_6 y0_7 w0_7 w1_0 w1_1 w1_2 w1_3 w1_4 w1_5 y1_6 w1_6 y1_7 w1_7 w2_0 w2_1 w2_2 w2_3 w2_4 w2_5 y2_6 w2_6 y2_7 w2_7
  refine (waveletlaw50_MetricsCompares.calls k (v0_.1.1.1) (v0_.1.1.2.1) (v0_.1.1.2.2.1) (v0_.1.1.2.2.2) (v0_.1.2.1) (v0_.1.2.2.1) _ _ (v0_.1.2.2.2) _ _ (v0_.2) (v1_.1.1.1) (v1_.1.1.2.1) (v1_.1.1.2.2.1) (v1_.1.1.2.2.2) (v1_.1.2.1) (v1_.1.2.2.1) _ _ (v1_.1.2.2.2) _ _ (v1_.2) (v2_.1.1.1) (v2_.1.1.2.1) (v2_.1.1.2.2.1) (v2_.1.1.2.2.2) (v2_.1.2.1) (v2_.1.2.2.1) _ _ (v2_.1.2.2.2) _ _ (v2_.2) true rfl W hC0_6 hl0_6 hC0_7 hl0_7 hC1_6 hl1_6 hC1_7 hl1_7 hC2_6 hl2_6 hC2_7 hl2_7 hp).mono fun e W' he_ => ?_
  obtain ⟨he, bel⟩ := he_
  subst he
  exact ⟨_, rfl, _, _, _, [], _, [], hW', trodAll_mk1 (shut_bool Try.underlying4 _), (trodAll_cons_mk (Below.trod laidOut (by kernel_rfl) (of_decide_eq_true (by kernel_rfl)) k0 bel lt0) (trodAll_cons_mk (Below.trod laidOut (by kernel_rfl) (of_decide_eq_true (by kernel_rfl)) k1 bel lt1) (trodAll_cons_mk (Below.trod laidOut (by kernel_rfl) (of_decide_eq_true (by kernel_rfl)) k2 bel lt2) trodAll_mk0))), rfl, bel.frame _, fun h => by cases h⟩
theorem over : Rows.metricsComparesRow.holds Try.pinned (OpenSpec.ofChange Rows.metricsComparesSpec) :=
  OpenClaim.holds_of_wide 4 Try.f4 rfl rfl rfl rfl rfl rfl rfl ⟨rfl, rfl, rfl, rfl, rfl⟩ rfl rfl rfl rfl rfl (by kernel_rfl) Try.func4 (by kernel_rfl)
    (of_decide_eq_true (by kernel_rfl)) (by unfold Func.isWrapper; first | (rw [if_pos (by decide +kernel)]; kernel_rfl) | (rw [if_neg (by decide +kernel)]; exact ⟨rfl, rfl⟩))
    (fun os started H enc _ => lifted os started H enc)
theorem proved : Rows.MetricsComparesSaid := over
end Go.Proofs.Ytfihdlekeainpaa.metricsCompares
namespace Go.Proofs.Ytfihdlekeainpaa
/-- The row, under a short name, for the claim. -/
theorem metricsCompares_holds : Rows.MetricsComparesSaid := metricsCompares.proved
#print axioms metricsCompares_holds
end Go.Proofs.Ytfihdlekeainpaa
