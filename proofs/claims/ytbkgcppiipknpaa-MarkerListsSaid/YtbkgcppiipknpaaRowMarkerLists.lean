/- The row of MarkerLists, out of its pure law (Pure.MarkerLists) and the contract of the function; no condition. Written by wip/tools/lawrow.py of this session. -/
import Derived.Test.YtbkgcppiipknpaaRows
import Derived.Test.YtbkgcppiipknpaaQ26
import Derived.Test.YtbkgcppiipknpaaPureMarkerLists
import Derived.Test.YtbkgcppiipknpaaOpen
import Derived.WalkKit
import Derived.ProofKit
import Derived.OpenShut
import Derived.ShutString
import Derived.ChangeOld
import Derived.Below
import Derived.SizedLaws
import Derived.Carry
namespace Go.Proofs.Ytbkgcppiipknpaa.markerLists
open Go.ChangeShapes Go.WideShapes Go.ChangeAt Go.RowKit Go.Proofs.Ytbkgcppiipknpaa.Q Go.Proofs.YtbkgcppiipknpaaW.PrintWords Go.Proofs.Ytbkgcppiipknpaa.Open
open Go.ChangeMaps (open_string shut_string)
set_option linter.unusedVariables false
theorem own : ownKnob Try.prog.godebug = none := by kernel_rfl
theorem laidOut : laidOutB Try.prog = true := by kernel_rfl
theorem o26 : Opens Try.prog 26 k26 (fun x => ((Lit.int .i64 x.f0).wf = true ∧ (x.f1.length * 1 ≤ 140737488351232 ∧ ∀ x_ ∈ x.f1, (Lit.int .u8 x_).wf = true))) := by
  have h := opens_struct (β := S26) Try.underlying26 (by kernel_rfl) (parts_cons (opens_int Try.underlying3 (by kernel_rfl)) rfl (parts_one (opens_slice (B := 1) Try.underlying24 (by kernel_rfl) (by kernel_rfl) (opens_int Try.underlying5 (by kernel_rfl))) rfl (by kernel_rfl))) (fun x => (x.f0, x.f1)) (fun v => ⟨v.1, v.2⟩) (fun _ => rfl)
  exact h
set_option maxRecDepth 100000 in
theorem lifted (os : Os) (started : os.Started) (H : Type) (enc : TypeId × Value → H) :
    ReturnsInHanded {} Try.checked os 9 .any (Rows.markerListsSpec.pre6 enc Try.prog Try.f9 Rows.markerListsRow.domain false) (Rows.markerListsSpec.post enc Try.prog Try.f9 false true false false) := by
  refine returnsInHanded_of_change_sized (C := Try.checked) own started (by kernel_rfl) Try.func9
    (ChangeSpec.witness6 (enc := enc) (C := Try.checked) false ⟨#[], #[.slice none 0 0, .slice none 0 0], []⟩ 8 (by kernel_rfl) (by kernel_rfl) (by kernel_rfl) (by kernel_rfl)) ?_
  intro W base args ds gs before hval0 hW hcnd hsz0 _
  have hsz : (DataW.weightsEach Try.prog (Try.f9.params.toList ++ Rows.markerListsSpec.plain.varTypes Try.prog) (ds ++ gs)).all (· ≤ reachBytes) = true := hsz0
  have hval : ∀ (j : Nat) t v, Try.f9.params[j]? = some t → args[j]? = some v → Value.okWide Try.prog W .any base t v := hval0
  have hW' := hW
  obtain ⟨p, q, hA0, hV, rfl, hfz, hnd⟩ := hW
  have hA : DataW.TrodAll enc Try.prog W 0 (fun _ => true) true Try.f9.params.toList args.toList ds p := hA0
  rw [Try.params9] at hA hval hsz
  obtain ⟨v0, vs0, d0, ds0, p0, q0, hargs, rfl, rfl, h0, r0⟩ := trodAll_cons hA
  obtain ⟨v1, vs1, d1, ds1, p1, q1, rfl, rfl, rfl, h1, r1⟩ := trodAll_cons r0
  obtain ⟨rfl, rfl, rfl⟩ := trodAll_nil r1
  obtain rfl : args = #[v0, v1] := by cases args; simp_all
  obtain ⟨rfl, rfl⟩ := trodVars_none hV
  have k0 := h0
  have lt0 : ∀ x ∈ p0, x.block < W.heap.size := by obtain ⟨m, hm⟩ := k0; exact DataW.trod_lt m _ _ _ hm
  have li0 := light_of hsz (j := 0) (t := 33) rfl rfl
  obtain ⟨fu0, hf0⟩ := h0
  obtain ⟨v0_, hK0, hok0⟩ := (opens_slice (B := 32) Try.underlying33 (by kernel_rfl) (by kernel_rfl) o26).opens hf0 li0
  obtain ⟨A0, n0, c0, rfl⟩ := okWide_slice Try.underlying33 (hval 0 33 v0 rfl rfl)
  obtain ⟨A0', c0', hcs0, hl0, hC0⟩ := hK0
  obtain ⟨rfl, rfl, rfl⟩ : A0 = A0' ∧ n0 = v0_.length ∧ c0 = c0' := by simpa [Value.cells] using hcs0
  clear hcs0
  obtain ⟨y0, w0⟩ := hok0
  have k1 := h1
  have lt1 : ∀ x ∈ p1, x.block < W.heap.size := by obtain ⟨m, hm⟩ := k1; exact DataW.trod_lt m _ _ _ hm
  have li1 := light_of hsz (j := 1) (t := 24) rfl rfl
  obtain ⟨fu1, hf1⟩ := h1
  obtain ⟨v1_, hK1, hok1⟩ := (opens_slice (B := 1) Try.underlying24 (by kernel_rfl) (by kernel_rfl) (opens_int Try.underlying5 (by kernel_rfl))).opens hf1 li1
  obtain ⟨A1, n1, c1, rfl⟩ := okWide_slice Try.underlying24 (hval 1 24 v1 rfl rfl)
  obtain ⟨A1', c1', hcs1, hl1, hC1⟩ := hK1
  obtain ⟨rfl, rfl, rfl⟩ : A1 = A1' ∧ n1 = v1_.length ∧ c1 = c1' := by simpa [Value.cells] using hcs1
  clear hcs1
  obtain ⟨y1, w1⟩ := hok1
  clear hA0 hval0 hsz0 hsz
  obtain ⟨k, hp⟩ := Pure.MarkerLists v0_ v1_ y0 w0 y1 w1
  refine (waveletlaw28_MarkerLists.calls k _ _ v0_ _ _ v1_ true rfl W hC0 hl0 hC1 hl1 hp).mono fun e W' he_ => ?_
  obtain ⟨he, bel⟩ := he_
  subst he
  exact ⟨_, rfl, _, _, _, [], _, [], hW', trodAll_mk1 (shut_bool Try.underlying4 _), (trodAll_cons_mk (Below.trod laidOut (by kernel_rfl) (of_decide_eq_true (by kernel_rfl)) k0 bel lt0) (trodAll_cons_mk (Below.trod laidOut (by kernel_rfl) (of_decide_eq_true (by kernel_rfl)) k1 bel lt1) trodAll_mk0)), rfl, bel.frame _, fun h => by cases h⟩
theorem over : Rows.markerListsRow.holds Try.pinned (OpenSpec.ofChange Rows.markerListsSpec) :=
  OpenClaim.holds_of_wide 9 Try.f9 rfl rfl rfl rfl rfl rfl rfl ⟨rfl, rfl, rfl, rfl, rfl⟩ rfl rfl rfl rfl rfl (by kernel_rfl) Try.func9 (by kernel_rfl)
    (of_decide_eq_true (by kernel_rfl)) (by unfold Func.isWrapper; first | (rw [if_pos (by decide +kernel)]; kernel_rfl) | (rw [if_neg (by decide +kernel)]; exact ⟨rfl, rfl⟩))
    (fun os started H enc _ => lifted os started H enc)
theorem proved : Rows.MarkerListsSaid := over
end Go.Proofs.Ytbkgcppiipknpaa.markerLists
namespace Go.Proofs.Ytbkgcppiipknpaa
/-- The row, under a short name, for the claim. -/
theorem markerLists_holds : Rows.MarkerListsSaid := markerLists.proved
#print axioms markerLists_holds
end Go.Proofs.Ytbkgcppiipknpaa
