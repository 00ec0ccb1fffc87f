/- HeadsegRestores: headers, parameters and numbers are restored from their segments. No condition beside the statement's own. Texts of this session, merged by wip/tools/merge.py. -/
import Derived.Test.YtihfopblmjgfaaaRows
import Derived.Test.YtihfopblmjgfaaaMRest8
import Derived.Test.YtihfopblmjgfaaaMRest9
import Derived.WalkKit
import Derived.ProofKit
import Derived.OpenShut
import Derived.ShutString
import Derived.ChangeOld
import Derived.Below
import Derived.SizedLaws
import Derived.Carry
/- The row of HeadsegRestores, out of its pure law (Pure.HeadsegRestores) and the contract of the function; no condition. Written by wip/tools/lawrow.py of this session. -/
namespace Go.Proofs.Ytihfopblmjgfaaa.headsegRestores
open Go.ChangeShapes Go.WideShapes Go.ChangeAt Go.RowKit Go.Proofs.Ytihfopblmjgfaaa.Q Go.Proofs.YtihfopblmjgfaaaW.PrintWords Go.Proofs.Ytihfopblmjgfaaa.Open
open Go.ChangeMaps (open_string shut_string)
set_option linter.unusedVariables false
theorem own : ownKnob Try.prog.godebug = none := by kernel_rfl
theorem laidOut : laidOutB Try.prog = true := by kernel_rfl
set_option maxRecDepth 100000 in
theorem o97 : Opens Try.prog 97 k97 (fun x => ((Lit.int .i64 x.f0).wf = true ∧ True ∧ (Lit.int .i64 x.f2).wf = true ∧ (Lit.int .i64 x.f3).wf = true)) := by
  have h := opens_struct (β := S97) Try.underlying97 (by kernel_rfl) (parts_cons (opens_int Try.underlying3 (by kernel_rfl)) rfl (parts_cons (opens_bool Try.underlying4 (by kernel_rfl)) rfl (parts_cons (opens_int Try.underlying3 (by kernel_rfl)) rfl (parts_one (opens_int Try.underlying3 (by kernel_rfl)) rfl (by kernel_rfl))))) (fun x => (x.f0, x.f1, x.f2, x.f3)) (fun v => ⟨v.1, v.2.1, v.2.2.1, v.2.2.2⟩) (fun _ => rfl)
  exact h
set_option maxRecDepth 100000 in
theorem o89 : Opens Try.prog 89 k89 (fun x => ((Lit.int .i64 x.f0).wf = true ∧ (Lit.int .i64 x.f1).wf = true)) := by
  have h := opens_struct (β := S89) Try.underlying89 (by kernel_rfl) (parts_cons (opens_int Try.underlying3 (by kernel_rfl)) rfl (parts_one (opens_int Try.underlying3 (by kernel_rfl)) rfl (by kernel_rfl))) (fun x => (x.f0, x.f1)) (fun v => ⟨v.1, v.2⟩) (fun _ => rfl)
  exact h
set_option maxRecDepth 100000 in
theorem lifted (os : Os) (started : os.Started) (H : Type) (enc : TypeId × Value → H) :
    ReturnsInHanded {} Try.checked os 9 .any (Rows.headsegRestoresSpec.pre6 enc Try.prog Try.f9 Rows.headsegRestoresRow.domain false) (Rows.headsegRestoresSpec.post enc Try.prog Try.f9 false true false false) := by
  refine returnsInHanded_of_change_sized (C := Try.checked) own started (by kernel_rfl) Try.func9
    (ChangeSpec.witness6 (enc := enc) (C := Try.checked) false ⟨#[], #[.agg #[.int .i64 0, .int .i64 0, .int .i64 0, .int .i64 0, .int .i64 0, .int .i64 0, .slice none 0 0], .agg #[.int .i64 0, .int .i64 0, .int .i64 0, .int .i64 0, .int .i64 0, .slice none 0 0, .int .i64 0, .int .i64 0, .bool false, .bool false, .bool false, .bool false, .bool false, .bool false, .bool false, .bool false, .slice none 0 0, .int .i64 0, .int .i64 0], .agg #[.int .i64 0, .int .i64 0, .int .i64 0, .int .i64 0]], []⟩ 8 (by kernel_rfl) (by kernel_rfl) (by kernel_rfl) (by kernel_rfl)) ?_
  intro W base args ds gs before hval0 hW hcnd hsz0 _
  have hsz : (DataW.weightsEach Try.prog (Try.f9.params.toList ++ Rows.headsegRestoresSpec.plain.varTypes Try.prog) (ds ++ gs)).all (· ≤ reachBytes) = true := hsz0
  have hval : ∀ (j : Nat) t v, Try.f9.params[j]? = some t → args[j]? = some v → Value.okWide Try.prog W .any base t v := hval0
  have hW' := hW
  obtain ⟨p, q, hA0, hV, rfl, hfz, hnd⟩ := hW
  have hA : DataW.TrodAll enc Try.prog W 0 (fun _ => true) true Try.f9.params.toList args.toList ds p := hA0
  rw [Try.params9] at hA hval hsz
  obtain ⟨v0, vs0, d0, ds0, p0, q0, hargs, rfl, rfl, h0, r0⟩ := trodAll_cons hA
  obtain ⟨v1, vs1, d1, ds1, p1, q1, rfl, rfl, rfl, h1, r1⟩ := trodAll_cons r0
  obtain ⟨v2, vs2, d2, ds2, p2, q2, rfl, rfl, rfl, h2, r2⟩ := trodAll_cons r1
  obtain ⟨rfl, rfl, rfl⟩ := trodAll_nil r2
  obtain rfl : args = #[v0, v1, v2] := by cases args; simp_all
  obtain ⟨rfl, rfl⟩ := trodVars_none hV
  have k0 := h0
  have lt0 : ∀ x ∈ p0, x.block < W.heap.size := by obtain ⟨m, hm⟩ := k0; exact DataW.trod_lt m _ _ _ hm
  have li0 := light_of hsz (j := 0) (t := 67) rfl rfl
  obtain ⟨fu0, hf0⟩ := h0
  obtain ⟨v0_, hK0, hok0⟩ := (opens_struct Try.underlying67 (by kernel_rfl) (parts_cons (opens_struct Try.underlying64 (by kernel_rfl) (parts_cons (opens_int Try.underlying3 (by kernel_rfl)) rfl (parts_cons (opens_int Try.underlying3 (by kernel_rfl)) rfl (parts_cons (opens_int Try.underlying3 (by kernel_rfl)) rfl (parts_one (opens_int Try.underlying3 (by kernel_rfl)) rfl (by kernel_rfl))))) (fun v => v) (fun v => v) (fun _ => rfl)) rfl (parts_cons (opens_int Try.underlying3 (by kernel_rfl)) rfl (parts_cons (opens_int Try.underlying3 (by kernel_rfl)) rfl (parts_one (opens_slice (B := 32) Try.underlying65 (by kernel_rfl) (by kernel_rfl) o97) rfl (by kernel_rfl))))) (fun v => v) (fun v => v) (fun _ => rfl)).opens hf0 li0
  obtain ⟨cs0, rfl, _⟩ := okWide_struct Try.underlying67 (hval 0 67 v0 rfl rfl)
  obtain ⟨_, _, hcs0, ⟨_, _, rfl, rfl, ⟨_, _, rfl, rfl, ⟨_, _, rfl, rfl, rfl⟩⟩⟩, ⟨_, _, rfl, rfl, ⟨_, _, rfl, rfl, ⟨A0_6, c0_6, rfl, hl0_6, hC0_6⟩⟩⟩⟩ := hK0
  obtain rfl : cs0 = #[.int .i64 v0_.1.1, .int .i64 v0_.1.2.1, .int .i64 v0_.1.2.2.1, .int .i64 v0_.1.2.2.2, .int .i64 v0_.2.1, .int .i64 v0_.2.2.1, .slice A0_6 v0_.2.2.2.length c0_6] := by cases cs0; simpa [Value.cells] using hcs0
  clear hcs0
  obtain ⟨⟨w0_0, w0_1, w0_2, w0_3⟩, w0_4, w0_5, ⟨y0_6, w0_6⟩⟩ := hok0
  have k1 := h1
  have lt1 : ∀ x ∈ p1, x.block < W.heap.size := by obtain ⟨m, hm⟩ := k1; exact DataW.trod_lt m _ _ _ hm
  have li1 := light_of hsz (j := 1) (t := 55) rfl rfl
  obtain ⟨fu1, hf1⟩ := h1
  obtain ⟨v1_, hK1, hok1⟩ := (opens_struct Try.underlying55 (by kernel_rfl) (parts_cons (opens_int Try.underlying48 (by kernel_rfl)) rfl (parts_cons (opens_int Try.underlying3 (by kernel_rfl)) rfl (parts_cons (opens_int Try.underlying49 (by kernel_rfl)) rfl (parts_cons (opens_int Try.underlying3 (by kernel_rfl)) rfl (parts_cons (opens_int Try.underlying3 (by kernel_rfl)) rfl (parts_cons (opens_slice (B := 16) Try.underlying50 (by kernel_rfl) (by kernel_rfl) o89) rfl (parts_cons (opens_int Try.underlying51 (by kernel_rfl)) rfl (parts_cons (opens_int Try.underlying3 (by kernel_rfl)) rfl (parts_cons (opens_struct Try.underlying53 (by kernel_rfl) (parts_cons (opens_bool Try.underlying4 (by kernel_rfl)) rfl (parts_cons (opens_bool Try.underlying4 (by kernel_rfl)) rfl (parts_cons (opens_bool Try.underlying4 (by kernel_rfl)) rfl (parts_cons (opens_bool Try.underlying4 (by kernel_rfl)) rfl (parts_one (opens_bool Try.underlying4 (by kernel_rfl)) rfl (by kernel_rfl)))))) (fun v => v) (fun v => v) (fun _ => rfl)) rfl (parts_cons (opens_bool Try.underlying4 (by kernel_rfl)) rfl (parts_cons (opens_bool Try.underlying4 (by kernel_rfl)) rfl (parts_cons (opens_bool Try.underlying4 (by kernel_rfl)) rfl (parts_cons (opens_slice (B := 8) Try.underlying39 (by kernel_rfl) (by kernel_rfl) (opens_int Try.underlying3 (by kernel_rfl))) rfl (parts_cons (opens_int Try.underlying3 (by kernel_rfl)) rfl (parts_one (opens_int Try.underlying3 (by kernel_rfl)) rfl (by kernel_rfl)))))))))))))))) (fun v => v) (fun v => v) (fun _ => rfl)).opens hf1 li1
  obtain ⟨cs1, rfl, _⟩ := okWide_struct Try.underlying55 (hval 1 55 v1 rfl rfl)
  obtain ⟨_, _, hcs1, rfl, ⟨_, _, rfl, rfl, ⟨_, _, rfl, rfl, ⟨_, _, rfl, rfl, ⟨_, _, rfl, rfl, ⟨_, _, rfl, ⟨A1_5, c1_5, rfl, hl1_5, hC1_5⟩, ⟨_, _, rfl, rfl, ⟨_, _, rfl, rfl, ⟨_, _, rfl, ⟨_, _, rfl, rfl, ⟨_, _, rfl, rfl, ⟨_, _, rfl, rfl, ⟨_, _, rfl, rfl, rfl⟩⟩⟩⟩, ⟨_, _, rfl, rfl, ⟨_, _, rfl, rfl, ⟨_, _, rfl, rfl, ⟨_, _, rfl, ⟨A1_16, c1_16, rfl, hl1_16, hC1_16⟩, ⟨_, _, rfl, rfl, rfl⟩⟩⟩⟩⟩⟩⟩⟩⟩⟩⟩⟩⟩⟩ := hK1
  obtain rfl : cs1 = #[.int .i64 v1_.1, .int .i64 v1_.2.1, .int .i64 v1_.2.2.1, .int .i64 v1_.2.2.2.1, .int .i64 v1_.2.2.2.2.1, .slice A1_5 v1_.2.2.2.2.2.1.length c1_5, .int .i64 v1_.2.2.2.2.2.2.1, .int .i64 v1_.2.2.2.2.2.2.2.1, .bool v1_.2.2.2.2.2.2.2.2.1.1, .bool v1_.2.2.2.2.2.2.2.2.1.2.1, .bool v1_.2.2.2.2.2.2.2.2.1.2.2.1, .bool v1_.2.2.2.2.2.2.2.2.1.2.2.2.1, .bool v1_.2.2.2.2.2.2.2.2.1.2.2.2.2, .bool v1_.2.2.2.2.2.2.2.2.2.1, .bool v1_.2.2.2.2.2.2.2.2.2.2.1, .bool v1_.2.2.2.2.2.2.2.2.2.2.2.1, .slice A1_16 v1_.2.2.2.2.2.2.2.2.2.2.2.2.1.length c1_16, .int .i64 v1_.2.2.2.2.2.2.2.2.2.2.2.2.2.1, .int .i64 v1_.2.2.2.2.2.2.2.2.2.2.2.2.2.2] := by cases cs1; simpa [Value.cells] using hcs1
  clear hcs1
  obtain ⟨w1_0, w1_1, w1_2, w1_3, w1_4, ⟨y1_5, w1_5⟩, w1_6, w1_7, ⟨_, _, _, _, _⟩, _, _, _, ⟨y1_16, w1_16⟩, w1_17, w1_18⟩ := hok1
  have k2 := h2
  have lt2 : ∀ x ∈ p2, x.block < W.heap.size := by obtain ⟨m, hm⟩ := k2; exact DataW.trod_lt m _ _ _ hm
  have li2 := light_of hsz (j := 2) (t := 23) rfl rfl
  obtain ⟨fu2, hf2⟩ := h2
  obtain ⟨v2_, hK2, hok2⟩ := (opens_struct Try.underlying23 (by kernel_rfl) (parts_cons (opens_int Try.underlying3 (by kernel_rfl)) rfl (parts_cons (opens_int Try.underlying3 (by kernel_rfl)) rfl (parts_cons (opens_int Try.underlying3 (by kernel_rfl)) rfl (parts_one (opens_int Try.underlying3 (by kernel_rfl)) rfl (by kernel_rfl))))) (fun v => v) (fun v => v) (fun _ => rfl)).opens hf2 li2
  obtain ⟨cs2, rfl, _⟩ := okWide_struct Try.underlying23 (hval 2 23 v2 rfl rfl)
  obtain ⟨_, _, hcs2, rfl, ⟨_, _, rfl, rfl, ⟨_, _, rfl, rfl, rfl⟩⟩⟩ := hK2
  obtain rfl : cs2 = #[.int .i64 v2_.1, .int .i64 v2_.2.1, .int .i64 v2_.2.2.1, .int .i64 v2_.2.2.2] := by cases cs2; simpa [Value.cells] using hcs2
  clear hcs2
  obtain ⟨w2_0, w2_1, w2_2, w2_3⟩ := hok2
  clear hA0 hval0 hsz0 hsz
  obtain ⟨k, hp⟩ := Pure.HeadsegRestores (v0_.1.1) (v0_.1.2.1) (v0_.1.2.2.1) (v0_.1.2.2.2) (v0_.2.1) (v0_.2.2.1) (v0_.2.2.2) (v1_.1) (v1_.2.1) (v1_.2.2.1) (v1_.2.2.2.1) (v1_.2.2.2.2.1) (v1_.2.2.2.2.2.1) (v1_.2.2.2.2.2.2.1) (v1_.2.2.2.2.2.2.2.1) (v1_.2.2.2.2.2.2.2.2.1.1) (v1_.2.2.2.2.2.2.2.2.1.2.1) (v1_.2.2.2.2.2.2.2.2.1.2.2.1) (v1_.2.2.2.2.2.2.2.2.1.2.2.2.1) (v1_.2.2.2.2.2.2.2.2.1.2.2.2.2) (v1_.2.2.2.2.2.2.2.2.2.1) (v1_.2.2.2.2.2.2.2.2.2.2.1) (v1_.2.2.2.2.2.2.2.2.2.2.2.1) (v1_.2.2.2.2.2.2.2.2.2.2.2.2.1) (v1_.2.2.2.2.2.2.2.2.2.2.2.2.2.1) (v1_.2.2.2.2.2.2.2.2.2.2.2.2.2.2) (v2_.1) (v2_.2.1) (v2_.2.2.1) (v2_.2.2.2) w0_0 w0_1 w0_2 w0_3 w0_4 w0_5 y0_6 w0_6 w1_0 w1_1 w1_2 w1_3 w1_4 y1_5 w1_5 w1_6 w1_7 y1_16 w1_16 w1_17 w1_18 w2_0 w2_1 w2_2 w2_3
  refine (waveletlaw29_HeadsegRestores.calls k (v0_.1.1) (v0_.1.2.1) (v0_.1.2.2.1) (v0_.1.2.2.2) (v0_.2.1) (v0_.2.2.1) _ _ (v0_.2.2.2) (v1_.1) (v1_.2.1) (v1_.2.2.1) (v1_.2.2.2.1) (v1_.2.2.2.2.1) _ _ (v1_.2.2.2.2.2.1) (v1_.2.2.2.2.2.2.1) (v1_.2.2.2.2.2.2.2.1) (v1_.2.2.2.2.2.2.2.2.1.1) (v1_.2.2.2.2.2.2.2.2.1.2.1) (v1_.2.2.2.2.2.2.2.2.1.2.2.1) (v1_.2.2.2.2.2.2.2.2.1.2.2.2.1) (v1_.2.2.2.2.2.2.2.2.1.2.2.2.2) (v1_.2.2.2.2.2.2.2.2.2.1) (v1_.2.2.2.2.2.2.2.2.2.2.1) (v1_.2.2.2.2.2.2.2.2.2.2.2.1) _ _ (v1_.2.2.2.2.2.2.2.2.2.2.2.2.1) (v1_.2.2.2.2.2.2.2.2.2.2.2.2.2.1) (v1_.2.2.2.2.2.2.2.2.2.2.2.2.2.2) (v2_.1) (v2_.2.1) (v2_.2.2.1) (v2_.2.2.2) true rfl W hC0_6 hl0_6 hC1_5 hl1_5 hC1_16 hl1_16 hp).mono fun e W' he_ => ?_
  obtain ⟨he, bel⟩ := he_
  subst he
  exact ⟨_, rfl, _, _, _, [], _, [], hW', trodAll_mk1 (shut_bool Try.underlying4 _), (trodAll_cons_mk (Below.trod laidOut (by kernel_rfl) (of_decide_eq_true (by kernel_rfl)) k0 bel lt0) (trodAll_cons_mk (Below.trod laidOut (by kernel_rfl) (of_decide_eq_true (by kernel_rfl)) k1 bel lt1) (trodAll_cons_mk (Below.trod laidOut (by kernel_rfl) (of_decide_eq_true (by kernel_rfl)) k2 bel lt2) trodAll_mk0))), rfl, bel.frame _, fun h => by cases h⟩
theorem over : Rows.headsegRestoresRow.holds Try.pinned (OpenSpec.ofChange Rows.headsegRestoresSpec) :=
  OpenClaim.holds_of_wide 9 Try.f9 rfl rfl rfl rfl rfl rfl rfl ⟨rfl, rfl, rfl, rfl, rfl⟩ rfl rfl rfl rfl rfl (by kernel_rfl) Try.func9 (by kernel_rfl)
    (of_decide_eq_true (by kernel_rfl)) (by unfold Func.isWrapper; first | (rw [if_pos (by decide +kernel)]; kernel_rfl) | (rw [if_neg (by decide +kernel)]; exact ⟨rfl, rfl⟩))
    (fun os started H enc _ => lifted os started H enc)
theorem proved : Rows.HeadsegRestoresSaid := over
end Go.Proofs.Ytihfopblmjgfaaa.headsegRestores
namespace Go.Proofs.Ytihfopblmjgfaaa
/-- The row, under a short name, for the claim. -/
theorem headsegRestores_holds : Rows.HeadsegRestoresSaid := headsegRestores.proved
#print axioms headsegRestores_holds
end Go.Proofs.Ytihfopblmjgfaaa
