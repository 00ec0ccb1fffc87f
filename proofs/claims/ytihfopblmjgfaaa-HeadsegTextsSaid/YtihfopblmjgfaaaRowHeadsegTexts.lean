/- The row of HeadsegTexts, out of its pure law (Pure.HeadsegTexts) and the contract of the function; no condition. Written by wip/tools/lawrow.py of this session. -/
import Derived.Test.YtihfopblmjgfaaaRows
import Derived.Test.YtihfopblmjgfaaaQ30
import Derived.Test.YtihfopblmjgfaaaPureHeadsegTexts
import Derived.Test.YtihfopblmjgfaaaOpen
import Derived.WalkKit
import Derived.ProofKit
import Derived.OpenShut
import Derived.ShutString
import Derived.ChangeOld
import Derived.Below
import Derived.SizedLaws
import Derived.Carry
namespace Go.Proofs.Ytihfopblmjgfaaa.headsegTexts
open Go.ChangeShapes Go.WideShapes Go.ChangeAt Go.RowKit Go.Proofs.Ytihfopblmjgfaaa.Q Go.Proofs.YtihfopblmjgfaaaW.PrintWords Go.Proofs.Ytihfopblmjgfaaa.Open
open Go.ChangeMaps (open_string shut_string)
set_option linter.unusedVariables false
theorem own : ownKnob Try.prog.godebug = none := by kernel_rfl
theorem laidOut : laidOutB Try.prog = true := by kernel_rfl
set_option maxRecDepth 100000 in
theorem lifted (os : Os) (started : os.Started) (H : Type) (enc : TypeId × Value → H) :
    ReturnsInHanded {} Try.checked os 6 .any (Rows.headsegTextsSpec.pre6 enc Try.prog Try.f6 Rows.headsegTextsRow.domain false) (Rows.headsegTextsSpec.post enc Try.prog Try.f6 false true false false) := by
  refine returnsInHanded_of_change_sized (C := Try.checked) own started (by kernel_rfl) Try.func6
    (ChangeSpec.witness6 (enc := enc) (C := Try.checked) false ⟨#[], #[.string ByteArray.empty, .int .i64 0, .slice none 0 0], []⟩ 8 (by kernel_rfl) (by kernel_rfl) (by kernel_rfl) (by kernel_rfl)) ?_
  intro W base args ds gs before hval0 hW hcnd hsz0 _
  have hsz : (DataW.weightsEach Try.prog (Try.f6.params.toList ++ Rows.headsegTextsSpec.plain.varTypes Try.prog) (ds ++ gs)).all (· ≤ reachBytes) = true := hsz0
  have hval : ∀ (j : Nat) t v, Try.f6.params[j]? = some t → args[j]? = some v → Value.okWide Try.prog W .any base t v := hval0
  have hW' := hW
  obtain ⟨p, q, hA0, hV, rfl, hfz, hnd⟩ := hW
  have hA : DataW.TrodAll enc Try.prog W 0 (fun _ => true) true Try.f6.params.toList args.toList ds p := hA0
  rw [Try.params6] at hA hval hsz
  obtain ⟨v0, vs0, d0, ds0, p0, q0, hargs, rfl, rfl, h0, r0⟩ := trodAll_cons hA
  obtain ⟨v1, vs1, d1, ds1, p1, q1, rfl, rfl, rfl, h1, r1⟩ := trodAll_cons r0
  obtain ⟨v2, vs2, d2, ds2, p2, q2, rfl, rfl, rfl, h2, r2⟩ := trodAll_cons r1
  obtain ⟨rfl, rfl, rfl⟩ := trodAll_nil r2
  obtain rfl : args = #[v0, v1, v2] := by cases args; simp_all
  obtain ⟨rfl, rfl⟩ := trodVars_none hV
  have k0 := h0
  have lt0 : ∀ x ∈ p0, x.block < W.heap.size := by obtain ⟨m, hm⟩ := k0; exact DataW.trod_lt m _ _ _ hm
  have li0 := light_of hsz (j := 0) (t := 9) rfl rfl
  obtain ⟨fu0, hf0⟩ := h0
  obtain ⟨v0_, hK0, hok0⟩ := (opens_string Try.underlying9 (by kernel_rfl)).opens hf0 li0
  obtain ⟨a0, rfl⟩ := okWide_string Try.underlying9 (hval 0 9 v0 rfl rfl)
  obtain rfl : a0 = v0_ := by have hcs : [Value.string a0] = [Value.string v0_] := hK0; simpa using hcs
  have w0 := hok0
  have k1 := h1
  have lt1 : ∀ x ∈ p1, x.block < W.heap.size := by obtain ⟨m, hm⟩ := k1; exact DataW.trod_lt m _ _ _ hm
  have li1 := light_of hsz (j := 1) (t := 3) rfl rfl
  obtain ⟨fu1, hf1⟩ := h1
  obtain ⟨v1_, hK1, hok1⟩ := (opens_int Try.underlying3 (by kernel_rfl)).opens hf1 li1
  obtain ⟨a1, rfl⟩ := okWide_int Try.underlying3 (hval 1 3 v1 rfl rfl)
  obtain rfl : a1 = v1_ := by have hcs : [Value.int .i64 a1] = [Value.int .i64 v1_] := hK1; simpa using hcs
  have w1 := hok1
  have k2 := h2
  have lt2 : ∀ x ∈ p2, x.block < W.heap.size := by obtain ⟨m, hm⟩ := k2; exact DataW.trod_lt m _ _ _ hm
  have li2 := light_of hsz (j := 2) (t := 39) rfl rfl
  obtain ⟨fu2, hf2⟩ := h2
  obtain ⟨v2_, hK2, hok2⟩ := (opens_slice (B := 8) Try.underlying39 (by kernel_rfl) (by kernel_rfl) (opens_int Try.underlying3 (by kernel_rfl))).opens hf2 li2
  obtain ⟨A2, n2, c2, rfl⟩ := okWide_slice Try.underlying39 (hval 2 39 v2 rfl rfl)
  obtain ⟨A2', c2', hcs2, hl2, hC2⟩ := hK2
  obtain ⟨rfl, rfl, rfl⟩ : A2 = A2' ∧ n2 = v2_.length ∧ c2 = c2' := by simpa [Value.cells] using hcs2
  clear hcs2
  obtain ⟨y2, w2⟩ := hok2
  clear hA0 hval0 hsz0 hsz
  obtain ⟨k, hp⟩ := Pure.HeadsegTexts a0 a1 v2_ w0 w1 y2 w2
  refine (waveletlaw29_HeadsegTexts.calls k a0 a1 _ _ v2_ true rfl W hC2 hl2 hp).mono fun e W' he_ => ?_
  obtain ⟨he, bel⟩ := he_
  subst he
  exact ⟨_, rfl, _, _, _, [], _, [], hW', trodAll_mk1 (shut_bool Try.underlying4 _), (trodAll_cons_mk (Below.trod laidOut (by kernel_rfl) (of_decide_eq_true (by kernel_rfl)) k0 bel lt0) (trodAll_cons_mk (Below.trod laidOut (by kernel_rfl) (of_decide_eq_true (by kernel_rfl)) k1 bel lt1) (trodAll_cons_mk (Below.trod laidOut (by kernel_rfl) (of_decide_eq_true (by kernel_rfl)) k2 bel lt2) trodAll_mk0))), rfl, bel.frame _, fun h => by cases h⟩
theorem over : Rows.headsegTextsRow.holds Try.pinned (OpenSpec.ofChange Rows.headsegTextsSpec) :=
  OpenClaim.holds_of_wide 6 Try.f6 rfl rfl rfl rfl rfl rfl rfl ⟨rfl, rfl, rfl, rfl, rfl⟩ rfl rfl rfl rfl rfl (by kernel_rfl) Try.func6 (by kernel_rfl)
    (of_decide_eq_true (by kernel_rfl)) (by unfold Func.isWrapper; first | (rw [if_pos (by decide +kernel)]; kernel_rfl) | (rw [if_neg (by decide +kernel)]; exact ⟨rfl, rfl⟩))
    (fun os started H enc _ => lifted os started H enc)
theorem proved : Rows.HeadsegTextsSaid := over
end Go.Proofs.Ytihfopblmjgfaaa.headsegTexts
namespace Go.Proofs.Ytihfopblmjgfaaa
/-- The row, under a short name, for the claim. -/
theorem headsegTexts_holds : Rows.HeadsegTextsSaid := headsegTexts.proved
#print axioms headsegTexts_holds
end Go.Proofs.Ytihfopblmjgfaaa
