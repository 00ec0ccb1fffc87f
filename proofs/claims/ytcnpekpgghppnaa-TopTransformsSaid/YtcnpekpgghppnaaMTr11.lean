/- The law TopTransforms: its byte is a byte, so it answers true. Texts of this session, merged by wip/tools/merge.py. -/
import Derived.Test.YtcnpekpgghppnaaMTr9
import Derived.Test.YtcnpekpgghppnaaMTr6
import Derived.Test.YtcnpekpgghppnaaMTr10
import Derived.Test.YtcnpekpgghppnaaMTr0
import Derived.ChangeArms
import Derived.SizedLaws
import Derived.OpenShut
import Derived.Test.YtcnpekpgghppnaaRows
import Derived.WalkKit
import Derived.ProofKit
import Derived.ShutString
import Derived.ChangeOld
import Derived.Below
import Derived.Carry
/- The law TopTransforms, where its guards let three planes in. Printed by wip/tools of this session. -/
namespace Go.Proofs.Ytcnpekpgghppnaa.Q
open Go.RowKit Go.Proofs.YtcnpekpgghppnaaW.PrintWords Go.Proofs.YtcnpekpgghppnaaW.PrintLast Go.Proofs.YtcnpekpgghppnaaW.PrintMore
set_option linter.unusedVariables false
set_option linter.unusedSimpArgs false

theorem idx50_0 (w : World) (a0 b0 c0 d0 e0 a1 b1 c1 d1 e1 a2 b2 c2 d2 e2 : Value) : (Instr.index 50 (.agg #[a0,b0,c0,d0,e0,a1,b1,c1,d1,e1,a2,b2,c2,d2,e2]) (.int .i64 0)).run Try.prog w = .ok (.agg #[a0,b0,c0,d0,e0]) w := by
  have hu := Try.underlying50
  unfold Instr.index
  go_simp
theorem idx50_1 (w : World) (a0 b0 c0 d0 e0 a1 b1 c1 d1 e1 a2 b2 c2 d2 e2 : Value) : (Instr.index 50 (.agg #[a0,b0,c0,d0,e0,a1,b1,c1,d1,e1,a2,b2,c2,d2,e2]) (.int .i64 1)).run Try.prog w = .ok (.agg #[a1,b1,c1,d1,e1]) w := by
  have hu := Try.underlying50
  unfold Instr.index
  go_simp
theorem idx50_2 (w : World) (a0 b0 c0 d0 e0 a1 b1 c1 d1 e1 a2 b2 c2 d2 e2 : Value) : (Instr.index 50 (.agg #[a0,b0,c0,d0,e0,a1,b1,c1,d1,e1,a2,b2,c2,d2,e2]) (.int .i64 2)).run Try.prog w = .ok (.agg #[a2,b2,c2,d2,e2]) w := by
  have hu := Try.underlying50
  unfold Instr.index
  go_simp
attribute [local go_sem high] eqA23_same idx50_0 idx50_1 idx50_2
/-- A subband's synthesis, for a plane. -/
structure PyrOk (kk : Int) (n : Nat) (e : Pl) : Prop where
  pv : PV e.x0 e.y0 e.x1 e.y1 e.D
  ex : pyramid_exceeds.f 2000000 e.D 1048576 = some false
  all : ∃ (bs : List Pl) (u : Nat → Pl), Ana kk n e bs ∧ u n = e ∧ bs[0]? = some (u 0) ∧ (∀ q, q < n → SynStep kk e.x0 e.y0 e.x1 e.y1 (n : Int) bs q (u q) (u (q + 1))) ∧ ∀ (j : Nat) (b : Pl), bs[j]? = some b → BandOk e.x0 e.y0 e.x1 e.y1 (n : Int) j b
theorem three_bds {W : World} {g : Nat} {t : TypeId} {x0 y0 x1 y1 : Int} {A0 A1 A2 : Option Addr} {c0 c1 c2 : Nat} {D0 D1 D2 : List Int} (hb : W.heap[g]? = some (.cells #[.int .i64 x0, .int .i64 y0, .int .i64 x1, .int .i64 y1, .slice A0 D0.length c0, .int .i64 x0, .int .i64 y0, .int .i64 x1, .int .i64 y1, .slice A1 D1.length c1, .int .i64 x0, .int .i64 y0, .int .i64 x1, .int .i64 y1, .slice A2 D2.length c2] t (0, 0))) (h0 : D0.length ≤ c0 ∧ Kd.C (Kd.int .i64) W A0 D0.length D0) (h1 : D1.length ≤ c1 ∧ Kd.C (Kd.int .i64) W A1 D1.length D1) (h2 : D2.length ≤ c2 ∧ Kd.C (Kd.int .i64) W A2 D2.length D2) : Bds W g [(.slice A0 D0.length c0, ⟨x0, y0, x1, y1, D0⟩), (.slice A1 D1.length c1, ⟨x0, y0, x1, y1, D1⟩), (.slice A2 D2.length c2, ⟨x0, y0, x1, y1, D2⟩)] := by
  refine ⟨fun j p hj i v hi => ?_, fun j p hj => ?_⟩
  · rw [blk_cell hb (5 * j + i)]
    match j, hj with
    | 0, hj =>
      obtain rfl := Option.some.inj hj
      rcases i with _ | _ | _ | _ | _ | i <;> first | exact hi | (simp [pcells] at hi)
    | 1, hj =>
      obtain rfl := Option.some.inj hj
      rcases i with _ | _ | _ | _ | _ | i <;> first | exact hi | (simp [pcells] at hi)
    | 2, hj =>
      obtain rfl := Option.some.inj hj
      rcases i with _ | _ | _ | _ | _ | i <;> first | exact hi | (simp [pcells] at hi)
    | j + 3, hj => simp at hj
  · match j, hj with
    | 0, hj =>
      obtain rfl := Option.some.inj hj
      exact ⟨A0, c0, rfl, h0.1, h0.2⟩
    | 1, hj =>
      obtain rfl := Option.some.inj hj
      exact ⟨A1, c1, rfl, h1.1, h1.2⟩
    | 2, hj =>
      obtain rfl := Option.some.inj hj
      exact ⟨A2, c2, rfl, h2.1, h2.2⟩
    | j + 3, hj => simp at hj
theorem same_three {W : World} {g g' c c' ks : Nat} {x0 y0 x1 y1 : Int} {v0 v1 v2 u0 u1 u2 : Value} {D0 D1 D2 : List Int} (hc : 3 ≤ c) (h : Bds W g [(v0, ⟨x0, y0, x1, y1, D0⟩), (v1, ⟨x0, y0, x1, y1, D1⟩), (v2, ⟨x0, y0, x1, y1, D2⟩)]) (h' : Bds W g' [(u0, ⟨x0, y0, x1, y1, D0⟩), (u1, ⟨x0, y0, x1, y1, D1⟩), (u2, ⟨x0, y0, x1, y1, D2⟩)]) (hc' : 3 ≤ c') (hs : wavelettop_samePlanes.f ks [⟨⟨x0, y0, x1, y1⟩, D0⟩, ⟨⟨x0, y0, x1, y1⟩, D1⟩, ⟨⟨x0, y0, x1, y1⟩, D2⟩] [⟨⟨x0, y0, x1, y1⟩, D0⟩, ⟨⟨x0, y0, x1, y1⟩, D1⟩, ⟨⟨x0, y0, x1, y1⟩, D2⟩] = some true) :
    Calls Try.prog 18 #[.slice (some ⟨g, 0, none⟩) 3 c, .slice (some ⟨g', 0, none⟩) 3 c'] W fun e w' => e = .returned (.bool true) ∧ Below W.heap.size W w' :=
  wavelettop_samePlanes.calls ks (some ⟨g, 0, none⟩) c [⟨⟨x0, y0, x1, y1⟩, D0⟩, ⟨⟨x0, y0, x1, y1⟩, D1⟩, ⟨⟨x0, y0, x1, y1⟩, D2⟩] (some ⟨g', 0, none⟩) c' [⟨⟨x0, y0, x1, y1⟩, D0⟩, ⟨⟨x0, y0, x1, y1⟩, D1⟩, ⟨⟨x0, y0, x1, y1⟩, D2⟩] true W (bds_C h (by show 3 ≤ 1000; decide)) hc (bds_C h' (by show 3 ≤ 1000; decide)) hc' hs
set_option maxHeartbeats 8000000 in
set_option maxRecDepth 100000 in
theorem TopTransforms.good (n km kr ks k0 k1 k2 : Nat) (kk mg L t ar x0 y0 x1 y1 : Int) (A0 A1 A2 : Option Addr) (c0 c1 c2 : Nat) (D0 D1 D2 E0 E1 E2 : List Int) (w : World)
    (hr0 : Kd.C (Kd.int .i64) w A0 D0.length D0) (hr1 : Kd.C (Kd.int .i64) w A1 D1.length D1) (hr2 : Kd.C (Kd.int .i64) w A2 D2.length D2) (hc0 : D0.length ≤ c0) (hc1 : D1.length ≤ c1) (hc2 : D2.length ≤ c2) (hs0 : wavelettop_smallPlane.f k0 x0 y0 x1 y1 D0 = some true) (hs1 : wavelettop_smallPlane.f k1 x0 y0 x1 y1 D1 = some true) (hs2 : wavelettop_smallPlane.f k2 x0 y0 x1 y1 D2 = some true) (hkn : wavelettop_knownKernel.f kk = some true) (hkt : wavelettop_knownTransform.f t = some true) (ht : t = 0 ∨ t = 1 ∨ t = 2) (hm : lift_Margin.f km kk = some mg) (hmg : mg ≠ 0) (hn : n ≤ 5) (he : E0 = chF fwdPx t (fun p => p.1) D0 D1 D2 D0.length ∧ E1 = chF fwdPx t (fun p => p.2.1) D0 D1 D2 D0.length ∧ E2 = chF fwdPx t (fun p => p.2.2) D0 D1 D2 D0.length) (hln : D0.length ≤ 1048576 ∧ D1.length = D0.length ∧ D2.length = D0.length) (hal : Alike x0 y0 x1 y1 1048576 [(.slice A0 D0.length c0, ⟨x0, y0, x1, y1, D0⟩), (.slice A1 D1.length c1, ⟨x0, y0, x1, y1, D1⟩), (.slice A2 D2.length c2, ⟨x0, y0, x1, y1, D2⟩)]) (hpy : ∀ e ∈ ([⟨x0, y0, x1, y1, E0⟩, ⟨x0, y0, x1, y1, E1⟩, ⟨x0, y0, x1, y1, E2⟩] : List Pl), PyrOk kk n e) (hrs : pyramid_Resolution.f kr x0 y0 x1 y1 (n : Int) (n : Int) = some (x0, y0, x1, y1)) (har : rect_Area.f x0 y0 x1 y1 = some ar) (hal2 : ar ≤ 1048576) (hrv : rect_Valid.f x0 y0 x1 y1 = some true) (hbk : chF invPx t (fun p => p.1) E0 E1 E2 E0.length = D0 ∧ chF invPx t (fun p => p.2.1) E0 E1 E2 E0.length = D1 ∧ chF invPx t (fun p => p.2.2) E0 E1 E2 E0.length = D2) (hae : ∀ v0 v1 v2 : Value, Alike x0 y0 x1 y1 281474976710656 [(v0, ⟨x0, y0, x1, y1, E0⟩), (v1, ⟨x0, y0, x1, y1, E1⟩), (v2, ⟨x0, y0, x1, y1, E2⟩)]) (hle : E0.length ≤ 1048576 ∧ E1.length = E0.length ∧ E2.length = E0.length) (hsa : wavelettop_samePlanes.f ks [⟨⟨x0, y0, x1, y1⟩, D0⟩, ⟨⟨x0, y0, x1, y1⟩, D1⟩, ⟨⟨x0, y0, x1, y1⟩, D2⟩] [⟨⟨x0, y0, x1, y1⟩, D0⟩, ⟨⟨x0, y0, x1, y1⟩, D1⟩, ⟨⟨x0, y0, x1, y1⟩, D2⟩] = some true) (hL : IntKind.i64.wrap L = L ∧ Int.tmod L 6 = (n : Int)) :
    Calls Try.prog 5 #[.agg #[.int .i64 x0, .int .i64 y0, .int .i64 x1, .int .i64 y1, .slice A0 D0.length c0, .int .i64 x0, .int .i64 y0, .int .i64 x1, .int .i64 y1, .slice A1 D1.length c1, .int .i64 x0, .int .i64 y0, .int .i64 x1, .int .i64 y1, .slice A2 D2.length c2], .int .i64 t, .int .u8 L, .int .i64 kk] w fun e w' => e = .returned (.bool true) ∧ Below w.heap.size w w' := by
  have HR0 := Aside0.mk hr0
  have HR1 := Aside0.mk hr1
  have HR2 := Aside0.mk hr2
  have HC0 := Aside0.mk hc0
  have HC1 := Aside0.mk hc1
  have HC2 := Aside0.mk hc2
  have HS0 := Aside0.mk hs0
  have HS1 := Aside0.mk hs1
  have HS2 := Aside0.mk hs2
  have HKN := Aside0.mk hkn
  have HKT := Aside0.mk hkt
  have HT := Aside0.mk ht
  have HM := Aside0.mk hm
  have HMG := Aside0.mk hmg
  have HN := Aside0.mk hn
  have HE := Aside0.mk he
  have HLN := Aside0.mk hln
  have HAL := Aside0.mk hal
  have HPY := Aside0.mk hpy
  have HRS := Aside0.mk hrs
  have HAR := Aside0.mk har
  have HAL2 := Aside0.mk hal2
  have HRV := Aside0.mk hrv
  have HBK := Aside0.mk hbk
  have HAE := Aside0.mk hae
  have HLE := Aside0.mk hle
  have HSA := Aside0.mk hsa
  obtain ⟨hL1, hL2⟩ := hL
  clear hr0 hr1 hr2 hc0 hc1 hc2 hs0 hs1 hs2 hkn hkt ht hm hmg hn he hln hal hpy hrs har hal2 hrv hbk hae hle hsa
  have K00 := Aside0.mk (Hold.nil w)
  go_enter Try.func5, Try.ntmps5
  go_upto_region 5 with (first
    | ((with_reducible refine gate_dst (N := 4) rfl ?_); refine box_event ?hg (N := 4) ?hd (cs := #[.int .i64 x0, .int .i64 y0, .int .i64 x1, .int .i64 y1, .slice A0 D0.length c0, .int .i64 x0, .int .i64 y0, .int .i64 x1, .int .i64 y1, .slice A1 D1.length c1, .int .i64 x0, .int .i64 y0, .int .i64 x1, .int .i64 y1, .slice A2 D2.length c2]) (t := 50) ?hr ?_; (case hd => rfl); (case hg => rfl); (case hr => first | (go_simp; done) | (go_simp; rfl)); intro g4 hg W4 hbox hb; have K := Aside0.mk (K00.out.box (Nat.le_refl _) hg hbox hb trivial); clear hg hbox hb K00)
    | (go_at_call 7; (with_reducible refine (wavelettop_knownKernel.calls kk true _ HKN.out).mono ?_); rintro _ w7 ⟨rfl, b⟩; have K' := Aside0.mk (K.out.call (below_size K.out.below) b.below); clear K; have K := K'; clear K'; clear b)
    | ((try (refine gate_guard (by rfl) ?_; dsimp only)); go_at_call 21; (with_reducible refine (wavelettop_knownTransform.calls t true _ HKT.out).mono ?_); rintro _ w21 ⟨rfl, b⟩; have K' := Aside0.mk (K.out.call (below_size K.out.below) b.below); clear K; have K := K'; clear K'; clear b)
    | ((with_reducible refine gate_dst (N := 32) rfl ?_); refine load_all_ev rfl 50 (.tmp 4) rfl rfl (K.out.get 0 rfl) Try.underlying50 rfl rfl ?_))
  go_loopg [33] 3 (fun kr v33 w' => (v33 = .int .i64 0 ∧ kr + 0 = 3 ∧ Aside0 (Hold w.heap.size w w' [(g4, 50, #[.int .i64 x0, .int .i64 y0, .int .i64 x1, .int .i64 y1, .slice A0 D0.length c0, .int .i64 x0, .int .i64 y0, .int .i64 x1, .int .i64 y1, .slice A1 D1.length c1, .int .i64 x0, .int .i64 y0, .int .i64 x1, .int .i64 y1, .slice A2 D2.length c2])] [])) ∨ (v33 = .int .i64 1 ∧ kr + 1 = 3 ∧ Aside0 (Hold w.heap.size w w' [(g4, 50, #[.int .i64 x0, .int .i64 y0, .int .i64 x1, .int .i64 y1, .slice A0 D0.length c0, .int .i64 x0, .int .i64 y0, .int .i64 x1, .int .i64 y1, .slice A1 D1.length c1, .int .i64 x0, .int .i64 y0, .int .i64 x1, .int .i64 y1, .slice A2 D2.length c2])] [])) ∨ (v33 = .int .i64 2 ∧ kr + 2 = 3 ∧ Aside0 (Hold w.heap.size w w' [(g4, 50, #[.int .i64 x0, .int .i64 y0, .int .i64 x1, .int .i64 y1, .slice A0 D0.length c0, .int .i64 x0, .int .i64 y0, .int .i64 x1, .int .i64 y1, .slice A1 D1.length c1, .int .i64 x0, .int .i64 y0, .int .i64 x1, .int .i64 y1, .slice A2 D2.length c2])] [])) ∨ (v33 = .int .i64 3 ∧ kr + 3 = 3 ∧ Aside0 (Hold w.heap.size w w' [(g4, 50, #[.int .i64 x0, .int .i64 y0, .int .i64 x1, .int .i64 y1, .slice A0 D0.length c0, .int .i64 x0, .int .i64 y0, .int .i64 x1, .int .i64 y1, .slice A1 D1.length c1, .int .i64 x0, .int .i64 y0, .int .i64 x1, .int .i64 y1, .slice A2 D2.length c2])] [])))
  case atStart => exact .inl ⟨rfl, rfl, K⟩
  case round =>
  clear K
  rcases hrel with ⟨rfl, hgk, K⟩ | ⟨rfl, hgk, K⟩ | ⟨rfl, hgk, K⟩ | ⟨rfl, hgk, K⟩
  · have hb0 : decide ((0 : Int) < 3) = true := rfl
    obtain ⟨W1, hW1⟩ : ∃ W1, W1 = wr := ⟨wr, rfl⟩
    subst hW1
    have K0 := Aside0.mk (Hold.nil W1)
    go_wp2_with (first
      | ((with_reducible refine gate_dst (N := 11) rfl ?_); refine box_event ?hg (N := 11) ?hd (cs := #[.int .i64 0, .int .i64 0, .int .i64 0, .int .i64 0, .slice none 0 0]) (t := 26) ?hr ?_; (case hd => rfl); (case hg => rfl); (case hr => first | (go_simp; done) | (go_simp; rfl)); intro g11 hg W11 hbox hb; have K3 := Aside0.mk (K0.out.box (Nat.le_refl _) hg hbox hb trivial); clear hg hbox hb K0)
      | ((with_reducible refine gate_store (t := 26) (p := 11) (v := .tmp 35) rfl ?_); refine store_ev rfl rfl 26 (.tmp 11) (.tmp 35) rfl rfl rfl (K3.out.get 0 rfl) rfl rfl (by first | (kernel_rfl) | (simp [Value.oneCell'])) ?_; intro W11s hs; have K3' := Aside0.mk (K3.out.stored 0 rfl hs); clear K3; have K3 := K3'; clear K3'; clear hs)
      | ((with_reducible refine gate_dst (N := 36) rfl ?_); refine load_ev rfl 26 (.tmp 11) rfl rfl (K3.out.get 0 rfl) Try.underlying26 rfl ?_)
      | (go_at_call 6; (with_reducible refine (wavelettop_smallPlane.calls k0 x0 y0 x1 y1 A0 c0 D0 true _ (Kd.C_below HR0.out (K.out.below.trans (K3.out.below.mono (K.out.size rfl)))) HC0.out HS0.out).mono ?_); rintro _ w6 ⟨rfl, b⟩; have K3' := Aside0.mk (K3.out.call (below_size K3.out.below) b); clear K3; have K3 := K3'; clear K3'; clear b; have K' := Aside0.mk (K.out.call (K.out.size rfl) K3.out.below); clear K; have K := K'; clear K')
      | ((with_reducible refine gate_dst (N := 41) rfl ?_); (try (refine gate_guard (by rfl) ?_; dsimp only)); refine load_mid_ev (i := 0) (cs := #[.int .i64 x0, .int .i64 y0, .int .i64 x1, .int .i64 y1]) rfl 23 (.tmp 40) rfl rfl (K3.out.get 0 rfl) (fun j v hj => by rcases j with _ | _ | _ | _ | j <;> first | exact hj | (simp at hj)) Try.underlying23 rfl rfl ?_)
      | ((with_reducible refine gate_dst (N := 44) rfl ?_); (try (refine gate_guard (by rfl) ?_; dsimp only)); refine load_mid_ev (i := 0) (cs := #[.int .i64 x0, .int .i64 y0, .int .i64 x1, .int .i64 y1]) rfl 23 (.tmp 43) rfl rfl (K.out.get 0 rfl) (fun j v hj => by rcases j with _ | _ | _ | _ | j <;> first | exact hj | (simp at hj)) Try.underlying23 rfl rfl ?_))
    obtain rfl : gk = 2 + 1 := by omega
    clear hgk
    go_roundg (2)
    case measure => omega
    case rel => exact .inr (.inl ⟨rfl, by omega, K⟩)
  · have hb0 : decide ((1 : Int) < 3) = true := rfl
    obtain ⟨W1, hW1⟩ : ∃ W1, W1 = wr := ⟨wr, rfl⟩
    subst hW1
    have K0 := Aside0.mk (Hold.nil W1)
    go_wp2_with (first
      | ((with_reducible refine gate_dst (N := 11) rfl ?_); refine box_event ?hg (N := 11) ?hd (cs := #[.int .i64 0, .int .i64 0, .int .i64 0, .int .i64 0, .slice none 0 0]) (t := 26) ?hr ?_; (case hd => rfl); (case hg => rfl); (case hr => first | (go_simp; done) | (go_simp; rfl)); intro g11 hg W11 hbox hb; have K3 := Aside0.mk (K0.out.box (Nat.le_refl _) hg hbox hb trivial); clear hg hbox hb K0)
      | ((with_reducible refine gate_store (t := 26) (p := 11) (v := .tmp 35) rfl ?_); refine store_ev rfl rfl 26 (.tmp 11) (.tmp 35) rfl rfl rfl (K3.out.get 0 rfl) rfl rfl (by first | (kernel_rfl) | (simp [Value.oneCell'])) ?_; intro W11s hs; have K3' := Aside0.mk (K3.out.stored 0 rfl hs); clear K3; have K3 := K3'; clear K3'; clear hs)
      | ((with_reducible refine gate_dst (N := 36) rfl ?_); refine load_ev rfl 26 (.tmp 11) rfl rfl (K3.out.get 0 rfl) Try.underlying26 rfl ?_)
      | (go_at_call 6; (with_reducible refine (wavelettop_smallPlane.calls k1 x0 y0 x1 y1 A1 c1 D1 true _ (Kd.C_below HR1.out (K.out.below.trans (K3.out.below.mono (K.out.size rfl)))) HC1.out HS1.out).mono ?_); rintro _ w6 ⟨rfl, b⟩; have K3' := Aside0.mk (K3.out.call (below_size K3.out.below) b); clear K3; have K3 := K3'; clear K3'; clear b; have K' := Aside0.mk (K.out.call (K.out.size rfl) K3.out.below); clear K; have K := K'; clear K')
      | ((with_reducible refine gate_dst (N := 41) rfl ?_); (try (refine gate_guard (by rfl) ?_; dsimp only)); refine load_mid_ev (i := 0) (cs := #[.int .i64 x0, .int .i64 y0, .int .i64 x1, .int .i64 y1]) rfl 23 (.tmp 40) rfl rfl (K3.out.get 0 rfl) (fun j v hj => by rcases j with _ | _ | _ | _ | j <;> first | exact hj | (simp at hj)) Try.underlying23 rfl rfl ?_)
      | ((with_reducible refine gate_dst (N := 44) rfl ?_); (try (refine gate_guard (by rfl) ?_; dsimp only)); refine load_mid_ev (i := 0) (cs := #[.int .i64 x0, .int .i64 y0, .int .i64 x1, .int .i64 y1]) rfl 23 (.tmp 43) rfl rfl (K.out.get 0 rfl) (fun j v hj => by rcases j with _ | _ | _ | _ | j <;> first | exact hj | (simp at hj)) Try.underlying23 rfl rfl ?_))
    obtain rfl : gk = 1 + 1 := by omega
    clear hgk
    go_roundg (1)
    case measure => omega
    case rel => exact .inr (.inr (.inl ⟨rfl, by omega, K⟩))
  · have hb0 : decide ((2 : Int) < 3) = true := rfl
    obtain ⟨W1, hW1⟩ : ∃ W1, W1 = wr := ⟨wr, rfl⟩
    subst hW1
    have K0 := Aside0.mk (Hold.nil W1)
    go_wp2_with (first
      | ((with_reducible refine gate_dst (N := 11) rfl ?_); refine box_event ?hg (N := 11) ?hd (cs := #[.int .i64 0, .int .i64 0, .int .i64 0, .int .i64 0, .slice none 0 0]) (t := 26) ?hr ?_; (case hd => rfl); (case hg => rfl); (case hr => first | (go_simp; done) | (go_simp; rfl)); intro g11 hg W11 hbox hb; have K3 := Aside0.mk (K0.out.box (Nat.le_refl _) hg hbox hb trivial); clear hg hbox hb K0)
      | ((with_reducible refine gate_store (t := 26) (p := 11) (v := .tmp 35) rfl ?_); refine store_ev rfl rfl 26 (.tmp 11) (.tmp 35) rfl rfl rfl (K3.out.get 0 rfl) rfl rfl (by first | (kernel_rfl) | (simp [Value.oneCell'])) ?_; intro W11s hs; have K3' := Aside0.mk (K3.out.stored 0 rfl hs); clear K3; have K3 := K3'; clear K3'; clear hs)
      | ((with_reducible refine gate_dst (N := 36) rfl ?_); refine load_ev rfl 26 (.tmp 11) rfl rfl (K3.out.get 0 rfl) Try.underlying26 rfl ?_)
      | (go_at_call 6; (with_reducible refine (wavelettop_smallPlane.calls k2 x0 y0 x1 y1 A2 c2 D2 true _ (Kd.C_below HR2.out (K.out.below.trans (K3.out.below.mono (K.out.size rfl)))) HC2.out HS2.out).mono ?_); rintro _ w6 ⟨rfl, b⟩; have K3' := Aside0.mk (K3.out.call (below_size K3.out.below) b); clear K3; have K3 := K3'; clear K3'; clear b; have K' := Aside0.mk (K.out.call (K.out.size rfl) K3.out.below); clear K; have K := K'; clear K')
      | ((with_reducible refine gate_dst (N := 41) rfl ?_); (try (refine gate_guard (by rfl) ?_; dsimp only)); refine load_mid_ev (i := 0) (cs := #[.int .i64 x0, .int .i64 y0, .int .i64 x1, .int .i64 y1]) rfl 23 (.tmp 40) rfl rfl (K3.out.get 0 rfl) (fun j v hj => by rcases j with _ | _ | _ | _ | j <;> first | exact hj | (simp at hj)) Try.underlying23 rfl rfl ?_)
      | ((with_reducible refine gate_dst (N := 44) rfl ?_); (try (refine gate_guard (by rfl) ?_; dsimp only)); refine load_mid_ev (i := 0) (cs := #[.int .i64 x0, .int .i64 y0, .int .i64 x1, .int .i64 y1]) rfl 23 (.tmp 43) rfl rfl (K.out.get 0 rfl) (fun j v hj => by rcases j with _ | _ | _ | _ | j <;> first | exact hj | (simp at hj)) Try.underlying23 rfl rfl ?_))
    obtain rfl : gk = 0 + 1 := by omega
    clear hgk
    go_roundg (0)
    case measure => omega
    case rel => exact .inr (.inr (.inr (⟨rfl, by omega, K⟩)))
  have hb0 : decide ((3 : Int) < 3) = false := rfl
  clear hgk
  go_upto_region 15 with (first
    | (go_at_call 22; (with_reducible refine (color_Apply.good t (.slice A0 D0.length c0) (.slice A1 D1.length c1) (.slice A2 D2.length c2) x0 y0 x1 y1 D0 D1 D2 g4 3 _ HT.out (three_bds (K.out.get 0 rfl) ⟨HC0.out, Kd.C_below HR0.out K.out.below⟩ ⟨HC1.out, Kd.C_below HR1.out K.out.below⟩ ⟨HC2.out, Kd.C_below HR2.out K.out.below⟩) (Nat.le_refl _) HAL.out HLN.out.1 HLN.out.2.1 HLN.out.2.2).mono ?_); rintro _ w22 ⟨g, c, u0, u1, u2, rfl, hc, hb2, b⟩; have K' := Aside0.mk (K.out.call (K.out.size rfl) b); clear K; have K := K'; clear K'; rw [← HE.out.1, ← HE.out.2.1, ← HE.out.2.2] at hb2; have HB2 := Aside0.mk hb2; have HCC := Aside0.mk hc; clear hc hb2 b))
  clear hb0
  obtain ⟨ps, hps⟩ : ∃ ps, ps = [(u0, (⟨x0, y0, x1, y1, E0⟩ : Pl)), (u1, ⟨x0, y0, x1, y1, E1⟩), (u2, ⟨x0, y0, x1, y1, E2⟩)] := ⟨_, rfl⟩
  rw [← hps] at HB2
  have HPS := Aside0.mk hps
  have HN3 := Aside0.mk (show ps.length = 3 by rw [hps]; rfl)
  have HB0 := Aside0.mk (Back.start w22)
  have HAP := Aside0.mk (show ∀ (j : Nat) (p : Value × Pl), ps[j]? = some p → (p.2.x0 = x0 ∧ p.2.y0 = y0 ∧ p.2.x1 = x1 ∧ p.2.y1 = y1) ∧ PyrOk kk n p.2 by
    intro j p hp
    rw [hps] at hp
    match j, hp with
    | 0, hp =>
      obtain rfl := Option.some.inj hp
      exact ⟨⟨rfl, rfl, rfl, rfl⟩, HPY.out _ (by simp)⟩
    | 1, hp =>
      obtain rfl := Option.some.inj hp
      exact ⟨⟨rfl, rfl, rfl, rfl⟩, HPY.out _ (by simp)⟩
    | 2, hp =>
      obtain rfl := Option.some.inj hp
      exact ⟨⟨rfl, rfl, rfl, rfl⟩, HPY.out _ (by simp)⟩
    | j + 3, hp => simp at hp)
  clear hps HPY
  go_loopg [14, 64] 3 (fun kq v14 v64 w' => ∃ (j : Nat) (qs : List (Value × Pl)), v64 = .int .i64 (j : Int) ∧ j + kq = 3 ∧ Aside0 (qs.map (·.2) = (ps.map (·.2)).take j) ∧ Aside0 (Back w22.heap.size w22 w' v14 qs))
  case atStart => exact ⟨0, [], rfl, rfl, ⟨by simp⟩, HB0⟩
  case round =>
  clear HB0
  obtain ⟨j, qs, rfl, hj, HQS, HBK⟩ := hrel
  obtain ⟨W1, hW1⟩ : ∃ W1, W1 = wr := ⟨wr, rfl⟩
  subst hW1
  by_cases hj3 : j < 3
  · obtain ⟨f0, hf0⟩ : ∃ f0, gk = f0 + 1 := ⟨gk - 1, by omega⟩
    subst hf0
    have hb0 : decide ((j : Int) < 3) = true := decide_eq_true (by omega)
    have p0 : (0 ≤ (j : Int)) = True := eq_true (by omega)
    have p1 : ((j : Int) < 3) = True := eq_true (by omega)
    have p2 : (j < 3) = True := eq_true hj3
    have hwj : wrap64 ((j : Int) + 1) = ((j + 1 : Nat) : Int) := by unfold wrap64; omega
    have HQL := Aside0.mk (show qs.length ≤ 3 by have h1 := congrArg List.length HQS.out; rw [List.length_map, List.length_take] at h1; omega)
    obtain ⟨p, hp⟩ : ∃ p, ps[j]? = some p := ⟨_, List.getElem?_eq_getElem (show j < ps.length by have := HN3.out; omega)⟩
    obtain ⟨⟨e0, e1, e2, e3⟩, hpy⟩ := HAP.out j p hp
    have hrg := HB2.out.cells j p hp
    obtain ⟨Aq, cq, hv, hcq⟩ := HB2.out.data j p hp
    obtain ⟨pv, q0, q1, q2, q3, Dq⟩ := p
    dsimp only at hv hcq e0 e1 e2 e3 hpy
    subst hv
    obtain rfl : x0 = q0 := e0.symm
    obtain rfl : y0 = q1 := e1.symm
    obtain rfl : x1 = q2 := e2.symm
    obtain rfl : y1 = q3 := e3.symm
    obtain ⟨hpv, hpex, bs, u, hA, hun, hu0, hus, hbo⟩ := hpy
    dsimp only at hpv hpex hA hun hu0 hus hbo
    have HRG := Aside0.mk (show w22.rangeAt g (j * 5) [.int .i64 x0, .int .i64 y0, .int .i64 x1, .int .i64 y1, .slice Aq Dq.length cq] by rw [Nat.mul_comm]; exact hrg)
    have HCQ := Aside0.mk hcq
    have HPJ := Aside0.mk hp
    have HPV := Aside0.mk hpv
    have HPX := Aside0.mk hpex
    have HA := Aside0.mk hA
    have HUN := Aside0.mk hun
    have HU0 := Aside0.mk hu0
    have HUS := Aside0.mk hus
    have HBO := Aside0.mk hbo
    have HJ := Aside0.mk (And.intro hj hj3)
    clear hrg hcq hp hpv hpex hA hun hu0 hus hbo hj hj3
    have K30 := Aside0.mk (Hold.nil W1)
    go_upto_region 20 with (first
      | ((with_reducible refine gate_dst (N := 67) rfl ?_); refine load_range_ev (cs := [.int .i64 x0, .int .i64 y0, .int .i64 x1, .int .i64 y1, .slice Aq Dq.length cq]) rfl 26 (.tmp 66) rfl rfl (range_below HRG.out HBK.out.below) Try.underlying26 rfl rfl ?_)
      | ((with_reducible refine gate_dst (N := 16) rfl ?_); refine box_event ?hg (N := 16) ?hd (cs := #[.int .i64 0, .int .i64 0, .int .i64 0, .int .i64 0, .slice none 0 0]) (t := 26) ?hr ?_; (case hd => rfl); (case hg => rfl); (case hr => first | (go_simp; done) | (go_simp; rfl)); intro g16 hg W16 hbox hb; have K3 := Aside0.mk (K30.out.box (Nat.le_refl _) hg hbox hb trivial); clear hg hbox hb K30)
      | ((with_reducible refine gate_store (t := 26) (p := 16) (v := .tmp 67) rfl ?_); refine store_ev rfl rfl 26 (.tmp 16) (.tmp 67) rfl rfl rfl (K3.out.get 0 rfl) rfl rfl (by first | (kernel_rfl) | (simp [Value.oneCell'])) ?_; intro W16s hs; have K3' := Aside0.mk (K3.out.stored 0 rfl hs); clear K3; have K3 := K3'; clear K3'; clear hs)
      | ((with_reducible refine gate_dst (N := 69) rfl ?_); refine load_ev rfl 26 (.tmp 16) rfl rfl (K3.out.get 0 rfl) Try.underlying26 rfl ?_)
      | (go_at_call 9; (with_reducible refine (pyramid_Analyze.good km 2000000 n kk mg x0 y0 x1 y1 Aq cq Dq bs _ (Kd.C_below HCQ.out.2 (HBK.out.below.trans (K3.out.below.mono (HBK.out.size rfl)))) HCQ.out.1 HPV.out HM.out HMG.out HPX.out HN.out HA.out).mono ?_); rintro _ w9 ⟨g9, ps9, hps9, rfl, hK9⟩; have HPS9 := Aside0.mk hps9; have HB9 := Aside0.mk hK9.bds; have K3' := Aside0.mk (K3.out.call (below_size K3.out.below) hK9.below); clear K3; have K3 := K3'; clear K3'; clear hps9 hK9))
    clear p0 p1 p2 hb0
    have hpl : ps9.length = 3 * n + 1 := by have h1 := HA.out.len; have h2 := congrArg List.length HPS9.out; rw [List.length_map] at h2; omega
    have HSY := Aside0.mk (pyramid_Synthesize.good km kr n n kk mg ar x0 y0 x1 y1 x0 y0 x1 y1 ps9 u g9 ps9.length ps9.length w9 HB9.out ⟨rfl, hpl, Nat.le_refl _⟩ HRV.out ⟨Nat.le_refl _, HN.out⟩ HRS.out HAR.out HAL2.out HM.out HMG.out (fun j p _ hp => HBO.out j p.2 (by rw [← HPS9.out, List.getElem?_map, hp]; rfl)) (by rw [HPS9.out]; exact HU0.out) (by rw [HPS9.out]; exact HUS.out))
    rw [HUN.out] at HSY
    dsimp only at HSY
    clear hpl
    have HW1 := Aside0.mk (HBK.out.size rfl)
    go_wp2_with (first
      | ((with_reducible refine gate_dst (N := 80) rfl ?_); refine load_mid_ev (i := 0) (cs := #[.int .i64 x0, .int .i64 y0, .int .i64 x1, .int .i64 y1]) rfl 23 (.tmp 79) rfl rfl (K3.out.get 0 rfl) (fun j v hj => by rcases j with _ | _ | _ | _ | j <;> first | exact hj | (simp at hj)) Try.underlying23 rfl rfl ?_)
      | (go_at_call 16; (with_reducible refine HSY.out.mono ?_); rintro _ w16 ⟨v16, rfl, hS⟩; clear HSY; have K3' := Aside0.mk (K3.out.join (below_size K3.out.below) hS); clear K3; have K3 := K3'; clear K3'; clear hS; obtain ⟨A9, d9, e9⟩ := Kd.R_slice (K3.out.rowAt 0 rfl); (try dsimp only at e9); subst e9)
      | ((with_reducible refine gate_dst (N := 19) rfl ?_); refine box_event ?hg (N := 19) ?hd (cs := #[.int .i64 0, .int .i64 0, .int .i64 0, .int .i64 0, .slice none 0 0]) (t := 26) ?hr ?_; (case hd => rfl); (case hg => rfl); (case hr => first | (go_simp; done) | (go_simp; rfl)); intro g19 hg W19 hbox hb; have K3' := Aside0.mk (K3.out.box (below_size K3.out.below) hg hbox hb trivial); clear K3; have K3 := K3'; clear K3'; clear hg hbox hb)
      | ((with_reducible refine gate_store (t := 26) (p := 19) (v := .tmp 85) rfl ?_); refine store_ev rfl rfl 26 (.tmp 19) (.tmp 85) rfl rfl rfl (K3.out.get 0 rfl) rfl rfl (by first | (kernel_rfl) | (simp [Value.oneCell'])) ?_; intro W19s hs; have K3' := Aside0.mk (K3.out.stored 0 rfl hs); clear K3; have K3 := K3'; clear K3'; clear hs)
      | ((with_reducible refine gate_dst (N := 90) rfl ?_); refine load_ev rfl 26 (.tmp 19) rfl rfl (K3.out.get 0 rfl) Try.underlying26 rfl ?_)
      | ((with_reducible refine gate_builtin (b := .append) (xs := #[.tmp 89, .tmp 91]) rfl ?_); at_builtin; have HB1 := Aside0.mk (HBK.out.call HW1.out K3.out.below); refine Kd.R_append rawP (w0 := w22) w22.heap.size rfl (.tmp 89) (.tmp 91) 32 26 _ 56 rfl Try.underlying32 info26 rfl (by decide) (by decide) u14 (qs.map pcells) (pcells (.slice A9 Dq.length d9, (⟨x0, y0, x1, y1, Dq⟩ : Pl))) (pcells (.slice A9 Dq.length d9, (⟨x0, y0, x1, y1, Dq⟩ : Pl))) (fun _ => True) (fun _ => False) rfl rfl pcells_raw (fun _ h => h.elim) (fun _ _ => trivial) HB1.out.row HB1.out.below (HB1.out.size rfl) (by rw [List.length_map]; have := HQL.out; omega) ?_; intro v14 w14 hR hb hg _; have HB2' := Aside0.mk (HB1.out.add (q := (.slice A9 Dq.length d9, (⟨x0, y0, x1, y1, Dq⟩ : Pl))) (K3.out.rowAt 0 rfl) HW1.out hR hb hg); clear hR hb hg))
    go_roundg f0
    case measure => omega
    case rel => exact ⟨j + 1, qs ++ [(.slice A9 Dq.length d9, (⟨x0, y0, x1, y1, Dq⟩ : Pl))], by first | rfl | rw [hwj], by have := HJ.out; omega, ⟨by rw [List.map_append, HQS.out, List.take_add_one, List.getElem?_map, HPJ.out]; rfl⟩, HB2'⟩
  · have hb0 : decide ((j : Int) < 3) = false := decide_eq_false (by omega)
    have hb0' : decide (j < 3) = false := decide_eq_false hj3
    have hqp : qs.map (·.2) = ps.map (·.2) := by rw [HQS.out, List.take_of_length_le (by rw [List.length_map]; have := HN3.out; omega)]
    rw [HPS.out] at hqp
    have hq3 : qs.length = 3 := by have := congrArg List.length hqp; simpa using this
    obtain ⟨gb, cN, hv14, hcN, hbds⟩ := HBK.out.form (by omega)
    have BK := Aside0.mk HBK.out.below
    have K' := Aside0.mk (K.out.call (K.out.size rfl) HBK.out.below)
    clear K
    have K := K'
    clear K'
    clear HBK HQS hj hj3 HAP HB2 HCC HN3 HPS
    obtain ⟨⟨s0, p0⟩, ⟨s1, p1⟩, ⟨s2, p2⟩, rfl⟩ : ∃ a b c : Value × Pl, qs = [a, b, c] := by
      match qs, hq3 with
      | [a, b, c], _ => exact ⟨a, b, c, rfl⟩
    simp only [List.map_cons, List.map_nil, List.cons.injEq, and_true] at hqp
    obtain ⟨rfl, rfl, rfl⟩ := hqp
    subst hv14
    have HBE := Aside0.mk hbds
    have HCE := Aside0.mk (show 3 ≤ cN from hcN)
    clear hbds hcN hq3
    go_wp2_with (first
      | (go_at_call 23; (with_reducible refine (color_Undo.good t s0 s1 s2 x0 y0 x1 y1 E0 E1 E2 gb cN _ HT.out HBE.out HCE.out (HAE.out s0 s1 s2) HLE.out.1 HLE.out.2.1 HLE.out.2.2).mono ?_); rintro _ w23 ⟨g2, c2', y0', y1', y2', rfl, hc, hb2, b⟩; have K' := Aside0.mk (K.out.call (K.out.size rfl) b); clear K; have K := K'; clear K'; rw [HBK.out.1, HBK.out.2.1, HBK.out.2.2] at hb2; have HB3 := Aside0.mk hb2; have HC3 := Aside0.mk hc; clear hc hb2 b)
      | ((try (refine gate_guard (by rfl) ?_; dsimp only)); go_at_call 18; (with_reducible refine (same_three (ks := ks) HC3.out HB3.out (three_bds (K.out.get 0 rfl) ⟨HC0.out, Kd.C_below HR0.out K.out.below⟩ ⟨HC1.out, Kd.C_below HR1.out K.out.below⟩ ⟨HC2.out, Kd.C_below HR2.out K.out.below⟩) (Nat.le_refl _) HSA.out).mono ?_); rintro _ w18 ⟨rfl, b⟩; have HBF := Aside0.mk (K.out.below.trans (b.mono (K.out.size rfl))); clear b))
    go_ret
    exact ⟨rfl, HBF.out⟩
end Go.Proofs.Ytcnpekpgghppnaa.Q

/- The law TopTransforms where its guards turn an input away. Printed by wip/tools of this session. -/
namespace Go.Proofs.Ytcnpekpgghppnaa.Q
open Go.RowKit Go.Proofs.YtcnpekpgghppnaaW.PrintWords Go.Proofs.YtcnpekpgghppnaaW.PrintLast Go.Proofs.YtcnpekpgghppnaaW.PrintMore
set_option linter.unusedVariables false
set_option linter.unusedSimpArgs false

attribute [local go_sem high] eqA23 idx50_0 idx50_1 idx50_2
set_option maxHeartbeats 8000000 in
set_option maxRecDepth 100000 in
theorem TopTransforms.skipK (L t kk a0 a1 a2 a3 b0 b1 b2 b3 z0 z1 z2 z3 : Int) (A0 A1 A2 : Option Addr) (c0 c1 c2 : Nat) (D0 D1 D2 : List Int) (w : World) (hL1 : IntKind.i64.wrap L = L) (hkn : wavelettop_knownKernel.f kk = some false) :
    Calls Try.prog 5 #[.agg #[.int .i64 a0, .int .i64 a1, .int .i64 a2, .int .i64 a3, .slice A0 D0.length c0, .int .i64 b0, .int .i64 b1, .int .i64 b2, .int .i64 b3, .slice A1 D1.length c1, .int .i64 z0, .int .i64 z1, .int .i64 z2, .int .i64 z3, .slice A2 D2.length c2], .int .i64 t, .int .u8 L, .int .i64 kk] w fun e w' => e = .returned (.bool true) ∧ Below w.heap.size w w' := by
  have HKN := Aside0.mk hkn
  clear hkn
  have K00 := Aside0.mk (Hold.nil w)
  go_enter Try.func5, Try.ntmps5
  go_wp2_with (first
    | ((with_reducible refine gate_dst (N := 4) rfl ?_); refine box_event ?hg (N := 4) ?hd (cs := #[.int .i64 a0, .int .i64 a1, .int .i64 a2, .int .i64 a3, .slice A0 D0.length c0, .int .i64 b0, .int .i64 b1, .int .i64 b2, .int .i64 b3, .slice A1 D1.length c1, .int .i64 z0, .int .i64 z1, .int .i64 z2, .int .i64 z3, .slice A2 D2.length c2]) (t := 50) ?hr ?_; (case hd => rfl); (case hg => rfl); (case hr => first | (go_simp; done) | (go_simp; rfl)); intro g4 hg W4 hbox hb; have K := Aside0.mk (K00.out.box (Nat.le_refl _) hg hbox hb trivial); clear hg hbox hb K00)
    | (go_at_call 7; (with_reducible refine (wavelettop_knownKernel.calls kk false _ HKN.out).mono ?_); rintro _ w7 ⟨rfl, b⟩; have K' := Aside0.mk (K.out.call (below_size K.out.below) b.below); clear K; have K := K'; clear K'; clear b))
  go_ret
  exact ⟨rfl, K.out.below⟩
set_option maxHeartbeats 8000000 in
set_option maxRecDepth 100000 in
theorem TopTransforms.skipT (L t kk a0 a1 a2 a3 b0 b1 b2 b3 z0 z1 z2 z3 : Int) (A0 A1 A2 : Option Addr) (c0 c1 c2 : Nat) (D0 D1 D2 : List Int) (w : World) (hL1 : IntKind.i64.wrap L = L) (hkn : wavelettop_knownKernel.f kk = some true) (hkt : wavelettop_knownTransform.f t = some false) :
    Calls Try.prog 5 #[.agg #[.int .i64 a0, .int .i64 a1, .int .i64 a2, .int .i64 a3, .slice A0 D0.length c0, .int .i64 b0, .int .i64 b1, .int .i64 b2, .int .i64 b3, .slice A1 D1.length c1, .int .i64 z0, .int .i64 z1, .int .i64 z2, .int .i64 z3, .slice A2 D2.length c2], .int .i64 t, .int .u8 L, .int .i64 kk] w fun e w' => e = .returned (.bool true) ∧ Below w.heap.size w w' := by
  have HKN := Aside0.mk hkn
  have HKT := Aside0.mk hkt
  clear hkn hkt
  have K00 := Aside0.mk (Hold.nil w)
  go_enter Try.func5, Try.ntmps5
  go_wp2_with (first
    | ((with_reducible refine gate_dst (N := 4) rfl ?_); refine box_event ?hg (N := 4) ?hd (cs := #[.int .i64 a0, .int .i64 a1, .int .i64 a2, .int .i64 a3, .slice A0 D0.length c0, .int .i64 b0, .int .i64 b1, .int .i64 b2, .int .i64 b3, .slice A1 D1.length c1, .int .i64 z0, .int .i64 z1, .int .i64 z2, .int .i64 z3, .slice A2 D2.length c2]) (t := 50) ?hr ?_; (case hd => rfl); (case hg => rfl); (case hr => first | (go_simp; done) | (go_simp; rfl)); intro g4 hg W4 hbox hb; have K := Aside0.mk (K00.out.box (Nat.le_refl _) hg hbox hb trivial); clear hg hbox hb K00)
    | (go_at_call 7; (with_reducible refine (wavelettop_knownKernel.calls kk true _ HKN.out).mono ?_); rintro _ w7 ⟨rfl, b⟩; have K' := Aside0.mk (K.out.call (below_size K.out.below) b.below); clear K; have K := K'; clear K'; clear b)
    | ((try (refine gate_guard (by rfl) ?_; dsimp only)); go_at_call 21; (with_reducible refine (wavelettop_knownTransform.calls t false _ HKT.out).mono ?_); rintro _ w21 ⟨rfl, b⟩; have K' := Aside0.mk (K.out.call (below_size K.out.below) b.below); clear K; have K := K'; clear K'; clear b))
  go_ret
  exact ⟨rfl, K.out.below⟩
set_option maxHeartbeats 8000000 in
set_option maxRecDepth 100000 in
theorem TopTransforms.skipL (k0 k1 k2 : Nat) (r0 r1 r2 e0 e1 e2 : Bool) (L t kk a0 a1 a2 a3 b0 b1 b2 b3 z0 z1 z2 z3 : Int) (A0 A1 A2 : Option Addr) (c0 c1 c2 : Nat) (D0 D1 D2 : List Int) (w : World) (hL1 : IntKind.i64.wrap L = L) (hkn : wavelettop_knownKernel.f kk = some true) (hkt : wavelettop_knownTransform.f t = some true) (hr0 : Kd.C (Kd.int .i64) w A0 D0.length D0) (hc0 : D0.length ≤ c0) (hs0 : wavelettop_smallPlane.f k0 a0 a1 a2 a3 D0 = some r0) (he0 : (a0 == a0 && (a1 == a1 && (a2 == a2 && (a3 == a3)))) = e0) (hr1 : Kd.C (Kd.int .i64) w A1 D1.length D1) (hc1 : D1.length ≤ c1) (hs1 : wavelettop_smallPlane.f k1 b0 b1 b2 b3 D1 = some r1) (he1 : (b0 == a0 && (b1 == a1 && (b2 == a2 && (b3 == a3)))) = e1) (hr2 : Kd.C (Kd.int .i64) w A2 D2.length D2) (hc2 : D2.length ≤ c2) (hs2 : wavelettop_smallPlane.f k2 z0 z1 z2 z3 D2 = some r2) (he2 : (z0 == a0 && (z1 == a1 && (z2 == a2 && (z3 == a3)))) = e2) (hnot : ¬ (r0 = true ∧ e0 = true ∧ r1 = true ∧ e1 = true ∧ r2 = true ∧ e2 = true)) :
    Calls Try.prog 5 #[.agg #[.int .i64 a0, .int .i64 a1, .int .i64 a2, .int .i64 a3, .slice A0 D0.length c0, .int .i64 b0, .int .i64 b1, .int .i64 b2, .int .i64 b3, .slice A1 D1.length c1, .int .i64 z0, .int .i64 z1, .int .i64 z2, .int .i64 z3, .slice A2 D2.length c2], .int .i64 t, .int .u8 L, .int .i64 kk] w fun e w' => e = .returned (.bool true) ∧ Below w.heap.size w w' := by
  have HKN := Aside0.mk hkn
  have HKT := Aside0.mk hkt
  have HR0 := Aside0.mk hr0
  have HC0 := Aside0.mk hc0
  have HSS0 := Aside0.mk hs0
  have HEE0 := Aside0.mk he0
  have HR1 := Aside0.mk hr1
  have HC1 := Aside0.mk hc1
  have HSS1 := Aside0.mk hs1
  have HEE1 := Aside0.mk he1
  have HR2 := Aside0.mk hr2
  have HC2 := Aside0.mk hc2
  have HSS2 := Aside0.mk hs2
  have HEE2 := Aside0.mk he2
  clear hkn hkt hr0 hc0 hs0 he0 hr1 hc1 hs1 he1 hr2 hc2 hs2 he2
  have K00 := Aside0.mk (Hold.nil w)
  go_enter Try.func5, Try.ntmps5
  go_upto_region 5 with (first
    | ((with_reducible refine gate_dst (N := 4) rfl ?_); refine box_event ?hg (N := 4) ?hd (cs := #[.int .i64 a0, .int .i64 a1, .int .i64 a2, .int .i64 a3, .slice A0 D0.length c0, .int .i64 b0, .int .i64 b1, .int .i64 b2, .int .i64 b3, .slice A1 D1.length c1, .int .i64 z0, .int .i64 z1, .int .i64 z2, .int .i64 z3, .slice A2 D2.length c2]) (t := 50) ?hr ?_; (case hd => rfl); (case hg => rfl); (case hr => first | (go_simp; done) | (go_simp; rfl)); intro g4 hg W4 hbox hb; have K := Aside0.mk (K00.out.box (Nat.le_refl _) hg hbox hb trivial); clear hg hbox hb K00)
    | (go_at_call 7; (with_reducible refine (wavelettop_knownKernel.calls kk true _ HKN.out).mono ?_); rintro _ w7 ⟨rfl, b⟩; have K' := Aside0.mk (K.out.call (below_size K.out.below) b.below); clear K; have K := K'; clear K'; clear b)
    | ((try (refine gate_guard (by rfl) ?_; dsimp only)); go_at_call 21; (with_reducible refine (wavelettop_knownTransform.calls t true _ HKT.out).mono ?_); rintro _ w21 ⟨rfl, b⟩; have K' := Aside0.mk (K.out.call (below_size K.out.below) b.below); clear K; have K := K'; clear K'; clear b)
    | ((with_reducible refine gate_dst (N := 32) rfl ?_); refine load_all_ev rfl 50 (.tmp 4) rfl rfl (K.out.get 0 rfl) Try.underlying50 rfl rfl ?_))
  go_loopg [33] 3 (fun kr v33 w' => (v33 = .int .i64 0 ∧ kr + 0 = 3 ∧ (True) ∧ Aside0 (Hold w.heap.size w w' [(g4, 50, #[.int .i64 a0, .int .i64 a1, .int .i64 a2, .int .i64 a3, .slice A0 D0.length c0, .int .i64 b0, .int .i64 b1, .int .i64 b2, .int .i64 b3, .slice A1 D1.length c1, .int .i64 z0, .int .i64 z1, .int .i64 z2, .int .i64 z3, .slice A2 D2.length c2])] [])) ∨ (v33 = .int .i64 1 ∧ kr + 1 = 3 ∧ (r0 = true ∧ e0 = true) ∧ Aside0 (Hold w.heap.size w w' [(g4, 50, #[.int .i64 a0, .int .i64 a1, .int .i64 a2, .int .i64 a3, .slice A0 D0.length c0, .int .i64 b0, .int .i64 b1, .int .i64 b2, .int .i64 b3, .slice A1 D1.length c1, .int .i64 z0, .int .i64 z1, .int .i64 z2, .int .i64 z3, .slice A2 D2.length c2])] [])) ∨ (v33 = .int .i64 2 ∧ kr + 2 = 3 ∧ (r0 = true ∧ e0 = true ∧ r1 = true ∧ e1 = true) ∧ Aside0 (Hold w.heap.size w w' [(g4, 50, #[.int .i64 a0, .int .i64 a1, .int .i64 a2, .int .i64 a3, .slice A0 D0.length c0, .int .i64 b0, .int .i64 b1, .int .i64 b2, .int .i64 b3, .slice A1 D1.length c1, .int .i64 z0, .int .i64 z1, .int .i64 z2, .int .i64 z3, .slice A2 D2.length c2])] [])) ∨ (v33 = .int .i64 3 ∧ kr + 3 = 3 ∧ (r0 = true ∧ e0 = true ∧ r1 = true ∧ e1 = true ∧ r2 = true ∧ e2 = true) ∧ Aside0 (Hold w.heap.size w w' [(g4, 50, #[.int .i64 a0, .int .i64 a1, .int .i64 a2, .int .i64 a3, .slice A0 D0.length c0, .int .i64 b0, .int .i64 b1, .int .i64 b2, .int .i64 b3, .slice A1 D1.length c1, .int .i64 z0, .int .i64 z1, .int .i64 z2, .int .i64 z3, .slice A2 D2.length c2])] [])))
  case atStart => exact .inl ⟨rfl, rfl, trivial, K⟩
  case round =>
  clear K
  rcases hrel with ⟨rfl, hgk, hd, K⟩ | ⟨rfl, hgk, hd, K⟩ | ⟨rfl, hgk, hd, K⟩ | ⟨rfl, hgk, hd, K⟩
  · have hb0 : decide ((0 : Int) < 3) = true := rfl
    obtain ⟨W1, hW1⟩ : ∃ W1, W1 = wr := ⟨wr, rfl⟩
    subst hW1
    have K0 := Aside0.mk (Hold.nil W1)
    have HS0 := HSS0
    by_cases hr : r0 = true
    rotate_left
    · rw [Bool.not_eq_true] at hr
      rw [hr] at HS0
      clear HEE0 HEE1 HEE2 hnot
      go_wp2_with (first
      | ((with_reducible refine gate_dst (N := 11) rfl ?_); refine box_event ?hg (N := 11) ?hd (cs := #[.int .i64 0, .int .i64 0, .int .i64 0, .int .i64 0, .slice none 0 0]) (t := 26) ?hr ?_; (case hd => rfl); (case hg => rfl); (case hr => first | (go_simp; done) | (go_simp; rfl)); intro g11 hg W11 hbox hb; have K3 := Aside0.mk (K0.out.box (Nat.le_refl _) hg hbox hb trivial); clear hg hbox hb K0)
      | ((with_reducible refine gate_store (t := 26) (p := 11) (v := .tmp 35) rfl ?_); refine store_ev rfl rfl 26 (.tmp 11) (.tmp 35) rfl rfl rfl (K3.out.get 0 rfl) rfl rfl (by first | (kernel_rfl) | (simp [Value.oneCell'])) ?_; intro W11s hs; have K3' := Aside0.mk (K3.out.stored 0 rfl hs); clear K3; have K3 := K3'; clear K3'; clear hs)
      | ((with_reducible refine gate_dst (N := 36) rfl ?_); refine load_ev rfl 26 (.tmp 11) rfl rfl (K3.out.get 0 rfl) Try.underlying26 rfl ?_)
      | (go_at_call 6; (with_reducible refine (wavelettop_smallPlane.calls k0 a0 a1 a2 a3 A0 c0 D0 false _ (Kd.C_below HR0.out (K.out.below.trans (K3.out.below.mono (K.out.size rfl)))) HC0.out HS0.out).mono ?_); rintro _ w6 ⟨rfl, b⟩; have K3' := Aside0.mk (K3.out.call (below_size K3.out.below) b); clear K3; have K3 := K3'; clear K3'; clear b; have K' := Aside0.mk (K.out.call (K.out.size rfl) K3.out.below); clear K; have K := K'; clear K'))
      go_ret
      exact ⟨rfl, K.out.below⟩
    rw [hr] at HS0
    by_cases he : e0 = true
    rotate_left
    · rw [Bool.not_eq_true] at he
      have hee := HEE0.out
      rw [he] at hee
      exact absurd hee (by simp)
    have hee := HEE0.out
    rw [he] at hee
    go_wp2_with (first
      | ((with_reducible refine gate_dst (N := 11) rfl ?_); refine box_event ?hg (N := 11) ?hd (cs := #[.int .i64 0, .int .i64 0, .int .i64 0, .int .i64 0, .slice none 0 0]) (t := 26) ?hr ?_; (case hd => rfl); (case hg => rfl); (case hr => first | (go_simp; done) | (go_simp; rfl)); intro g11 hg W11 hbox hb; have K3 := Aside0.mk (K0.out.box (Nat.le_refl _) hg hbox hb trivial); clear hg hbox hb K0)
      | ((with_reducible refine gate_store (t := 26) (p := 11) (v := .tmp 35) rfl ?_); refine store_ev rfl rfl 26 (.tmp 11) (.tmp 35) rfl rfl rfl (K3.out.get 0 rfl) rfl rfl (by first | (kernel_rfl) | (simp [Value.oneCell'])) ?_; intro W11s hs; have K3' := Aside0.mk (K3.out.stored 0 rfl hs); clear K3; have K3 := K3'; clear K3'; clear hs)
      | ((with_reducible refine gate_dst (N := 36) rfl ?_); refine load_ev rfl 26 (.tmp 11) rfl rfl (K3.out.get 0 rfl) Try.underlying26 rfl ?_)
      | (go_at_call 6; (with_reducible refine (wavelettop_smallPlane.calls k0 a0 a1 a2 a3 A0 c0 D0 true _ (Kd.C_below HR0.out (K.out.below.trans (K3.out.below.mono (K.out.size rfl)))) HC0.out HS0.out).mono ?_); rintro _ w6 ⟨rfl, b⟩; have K3' := Aside0.mk (K3.out.call (below_size K3.out.below) b); clear K3; have K3 := K3'; clear K3'; clear b; have K' := Aside0.mk (K.out.call (K.out.size rfl) K3.out.below); clear K; have K := K'; clear K')
      | ((with_reducible refine gate_dst (N := 41) rfl ?_); (try (refine gate_guard (by rfl) ?_; dsimp only)); refine load_mid_ev (i := 0) (cs := #[.int .i64 a0, .int .i64 a1, .int .i64 a2, .int .i64 a3]) rfl 23 (.tmp 40) rfl rfl (K3.out.get 0 rfl) (fun j v hj => by rcases j with _ | _ | _ | _ | j <;> first | exact hj | (simp at hj)) Try.underlying23 rfl rfl ?_)
      | ((with_reducible refine gate_dst (N := 44) rfl ?_); (try (refine gate_guard (by rfl) ?_; dsimp only)); refine load_mid_ev (i := 0) (cs := #[.int .i64 a0, .int .i64 a1, .int .i64 a2, .int .i64 a3]) rfl 23 (.tmp 43) rfl rfl (K.out.get 0 rfl) (fun j v hj => by rcases j with _ | _ | _ | _ | j <;> first | exact hj | (simp at hj)) Try.underlying23 rfl rfl ?_))
    obtain rfl : gk = 2 + 1 := by omega
    clear hgk
    go_roundg (2)
    case measure => omega
    case rel => exact .inr (.inl ⟨rfl, by omega, ⟨hr, he⟩, K⟩)
  · have hb0 : decide ((1 : Int) < 3) = true := rfl
    obtain ⟨W1, hW1⟩ : ∃ W1, W1 = wr := ⟨wr, rfl⟩
    subst hW1
    have K0 := Aside0.mk (Hold.nil W1)
    have HS1 := HSS1
    by_cases hr : r1 = true
    rotate_left
    · rw [Bool.not_eq_true] at hr
      rw [hr] at HS1
      clear HEE0 HEE1 HEE2 hnot
      go_wp2_with (first
      | ((with_reducible refine gate_dst (N := 11) rfl ?_); refine box_event ?hg (N := 11) ?hd (cs := #[.int .i64 0, .int .i64 0, .int .i64 0, .int .i64 0, .slice none 0 0]) (t := 26) ?hr ?_; (case hd => rfl); (case hg => rfl); (case hr => first | (go_simp; done) | (go_simp; rfl)); intro g11 hg W11 hbox hb; have K3 := Aside0.mk (K0.out.box (Nat.le_refl _) hg hbox hb trivial); clear hg hbox hb K0)
      | ((with_reducible refine gate_store (t := 26) (p := 11) (v := .tmp 35) rfl ?_); refine store_ev rfl rfl 26 (.tmp 11) (.tmp 35) rfl rfl rfl (K3.out.get 0 rfl) rfl rfl (by first | (kernel_rfl) | (simp [Value.oneCell'])) ?_; intro W11s hs; have K3' := Aside0.mk (K3.out.stored 0 rfl hs); clear K3; have K3 := K3'; clear K3'; clear hs)
      | ((with_reducible refine gate_dst (N := 36) rfl ?_); refine load_ev rfl 26 (.tmp 11) rfl rfl (K3.out.get 0 rfl) Try.underlying26 rfl ?_)
      | (go_at_call 6; (with_reducible refine (wavelettop_smallPlane.calls k1 b0 b1 b2 b3 A1 c1 D1 false _ (Kd.C_below HR1.out (K.out.below.trans (K3.out.below.mono (K.out.size rfl)))) HC1.out HS1.out).mono ?_); rintro _ w6 ⟨rfl, b⟩; have K3' := Aside0.mk (K3.out.call (below_size K3.out.below) b); clear K3; have K3 := K3'; clear K3'; clear b; have K' := Aside0.mk (K.out.call (K.out.size rfl) K3.out.below); clear K; have K := K'; clear K'))
      go_ret
      exact ⟨rfl, K.out.below⟩
    rw [hr] at HS1
    by_cases he : e1 = true
    rotate_left
    · rw [Bool.not_eq_true] at he
      have hee := HEE1.out
      rw [he] at hee
      clear hnot
      go_wp2_with (first
      | ((with_reducible refine gate_dst (N := 11) rfl ?_); refine box_event ?hg (N := 11) ?hd (cs := #[.int .i64 0, .int .i64 0, .int .i64 0, .int .i64 0, .slice none 0 0]) (t := 26) ?hr ?_; (case hd => rfl); (case hg => rfl); (case hr => first | (go_simp; done) | (go_simp; rfl)); intro g11 hg W11 hbox hb; have K3 := Aside0.mk (K0.out.box (Nat.le_refl _) hg hbox hb trivial); clear hg hbox hb K0)
      | ((with_reducible refine gate_store (t := 26) (p := 11) (v := .tmp 35) rfl ?_); refine store_ev rfl rfl 26 (.tmp 11) (.tmp 35) rfl rfl rfl (K3.out.get 0 rfl) rfl rfl (by first | (kernel_rfl) | (simp [Value.oneCell'])) ?_; intro W11s hs; have K3' := Aside0.mk (K3.out.stored 0 rfl hs); clear K3; have K3 := K3'; clear K3'; clear hs)
      | ((with_reducible refine gate_dst (N := 36) rfl ?_); refine load_ev rfl 26 (.tmp 11) rfl rfl (K3.out.get 0 rfl) Try.underlying26 rfl ?_)
      | (go_at_call 6; (with_reducible refine (wavelettop_smallPlane.calls k1 b0 b1 b2 b3 A1 c1 D1 true _ (Kd.C_below HR1.out (K.out.below.trans (K3.out.below.mono (K.out.size rfl)))) HC1.out HS1.out).mono ?_); rintro _ w6 ⟨rfl, b⟩; have K3' := Aside0.mk (K3.out.call (below_size K3.out.below) b); clear K3; have K3 := K3'; clear K3'; clear b; have K' := Aside0.mk (K.out.call (K.out.size rfl) K3.out.below); clear K; have K := K'; clear K')
      | ((with_reducible refine gate_dst (N := 41) rfl ?_); (try (refine gate_guard (by rfl) ?_; dsimp only)); refine load_mid_ev (i := 0) (cs := #[.int .i64 b0, .int .i64 b1, .int .i64 b2, .int .i64 b3]) rfl 23 (.tmp 40) rfl rfl (K3.out.get 0 rfl) (fun j v hj => by rcases j with _ | _ | _ | _ | j <;> first | exact hj | (simp at hj)) Try.underlying23 rfl rfl ?_)
      | ((with_reducible refine gate_dst (N := 44) rfl ?_); (try (refine gate_guard (by rfl) ?_; dsimp only)); refine load_mid_ev (i := 0) (cs := #[.int .i64 a0, .int .i64 a1, .int .i64 a2, .int .i64 a3]) rfl 23 (.tmp 43) rfl rfl (K.out.get 0 rfl) (fun j v hj => by rcases j with _ | _ | _ | _ | j <;> first | exact hj | (simp at hj)) Try.underlying23 rfl rfl ?_))
      go_ret
      exact ⟨rfl, K.out.below⟩
    have hee := HEE1.out
    rw [he] at hee
    go_wp2_with (first
      | ((with_reducible refine gate_dst (N := 11) rfl ?_); refine box_event ?hg (N := 11) ?hd (cs := #[.int .i64 0, .int .i64 0, .int .i64 0, .int .i64 0, .slice none 0 0]) (t := 26) ?hr ?_; (case hd => rfl); (case hg => rfl); (case hr => first | (go_simp; done) | (go_simp; rfl)); intro g11 hg W11 hbox hb; have K3 := Aside0.mk (K0.out.box (Nat.le_refl _) hg hbox hb trivial); clear hg hbox hb K0)
      | ((with_reducible refine gate_store (t := 26) (p := 11) (v := .tmp 35) rfl ?_); refine store_ev rfl rfl 26 (.tmp 11) (.tmp 35) rfl rfl rfl (K3.out.get 0 rfl) rfl rfl (by first | (kernel_rfl) | (simp [Value.oneCell'])) ?_; intro W11s hs; have K3' := Aside0.mk (K3.out.stored 0 rfl hs); clear K3; have K3 := K3'; clear K3'; clear hs)
      | ((with_reducible refine gate_dst (N := 36) rfl ?_); refine load_ev rfl 26 (.tmp 11) rfl rfl (K3.out.get 0 rfl) Try.underlying26 rfl ?_)
      | (go_at_call 6; (with_reducible refine (wavelettop_smallPlane.calls k1 b0 b1 b2 b3 A1 c1 D1 true _ (Kd.C_below HR1.out (K.out.below.trans (K3.out.below.mono (K.out.size rfl)))) HC1.out HS1.out).mono ?_); rintro _ w6 ⟨rfl, b⟩; have K3' := Aside0.mk (K3.out.call (below_size K3.out.below) b); clear K3; have K3 := K3'; clear K3'; clear b; have K' := Aside0.mk (K.out.call (K.out.size rfl) K3.out.below); clear K; have K := K'; clear K')
      | ((with_reducible refine gate_dst (N := 41) rfl ?_); (try (refine gate_guard (by rfl) ?_; dsimp only)); refine load_mid_ev (i := 0) (cs := #[.int .i64 b0, .int .i64 b1, .int .i64 b2, .int .i64 b3]) rfl 23 (.tmp 40) rfl rfl (K3.out.get 0 rfl) (fun j v hj => by rcases j with _ | _ | _ | _ | j <;> first | exact hj | (simp at hj)) Try.underlying23 rfl rfl ?_)
      | ((with_reducible refine gate_dst (N := 44) rfl ?_); (try (refine gate_guard (by rfl) ?_; dsimp only)); refine load_mid_ev (i := 0) (cs := #[.int .i64 a0, .int .i64 a1, .int .i64 a2, .int .i64 a3]) rfl 23 (.tmp 43) rfl rfl (K.out.get 0 rfl) (fun j v hj => by rcases j with _ | _ | _ | _ | j <;> first | exact hj | (simp at hj)) Try.underlying23 rfl rfl ?_))
    obtain rfl : gk = 1 + 1 := by omega
    clear hgk
    go_roundg (1)
    case measure => omega
    case rel => exact .inr (.inr (.inl ⟨rfl, by omega, ⟨hd.1, hd.2, hr, he⟩, K⟩))
  · have hb0 : decide ((2 : Int) < 3) = true := rfl
    obtain ⟨W1, hW1⟩ : ∃ W1, W1 = wr := ⟨wr, rfl⟩
    subst hW1
    have K0 := Aside0.mk (Hold.nil W1)
    have HS2 := HSS2
    by_cases hr : r2 = true
    rotate_left
    · rw [Bool.not_eq_true] at hr
      rw [hr] at HS2
      clear HEE0 HEE1 HEE2 hnot
      go_wp2_with (first
      | ((with_reducible refine gate_dst (N := 11) rfl ?_); refine box_event ?hg (N := 11) ?hd (cs := #[.int .i64 0, .int .i64 0, .int .i64 0, .int .i64 0, .slice none 0 0]) (t := 26) ?hr ?_; (case hd => rfl); (case hg => rfl); (case hr => first | (go_simp; done) | (go_simp; rfl)); intro g11 hg W11 hbox hb; have K3 := Aside0.mk (K0.out.box (Nat.le_refl _) hg hbox hb trivial); clear hg hbox hb K0)
      | ((with_reducible refine gate_store (t := 26) (p := 11) (v := .tmp 35) rfl ?_); refine store_ev rfl rfl 26 (.tmp 11) (.tmp 35) rfl rfl rfl (K3.out.get 0 rfl) rfl rfl (by first | (kernel_rfl) | (simp [Value.oneCell'])) ?_; intro W11s hs; have K3' := Aside0.mk (K3.out.stored 0 rfl hs); clear K3; have K3 := K3'; clear K3'; clear hs)
      | ((with_reducible refine gate_dst (N := 36) rfl ?_); refine load_ev rfl 26 (.tmp 11) rfl rfl (K3.out.get 0 rfl) Try.underlying26 rfl ?_)
      | (go_at_call 6; (with_reducible refine (wavelettop_smallPlane.calls k2 z0 z1 z2 z3 A2 c2 D2 false _ (Kd.C_below HR2.out (K.out.below.trans (K3.out.below.mono (K.out.size rfl)))) HC2.out HS2.out).mono ?_); rintro _ w6 ⟨rfl, b⟩; have K3' := Aside0.mk (K3.out.call (below_size K3.out.below) b); clear K3; have K3 := K3'; clear K3'; clear b; have K' := Aside0.mk (K.out.call (K.out.size rfl) K3.out.below); clear K; have K := K'; clear K'))
      go_ret
      exact ⟨rfl, K.out.below⟩
    rw [hr] at HS2
    by_cases he : e2 = true
    rotate_left
    · rw [Bool.not_eq_true] at he
      have hee := HEE2.out
      rw [he] at hee
      clear hnot
      go_wp2_with (first
      | ((with_reducible refine gate_dst (N := 11) rfl ?_); refine box_event ?hg (N := 11) ?hd (cs := #[.int .i64 0, .int .i64 0, .int .i64 0, .int .i64 0, .slice none 0 0]) (t := 26) ?hr ?_; (case hd => rfl); (case hg => rfl); (case hr => first | (go_simp; done) | (go_simp; rfl)); intro g11 hg W11 hbox hb; have K3 := Aside0.mk (K0.out.box (Nat.le_refl _) hg hbox hb trivial); clear hg hbox hb K0)
      | ((with_reducible refine gate_store (t := 26) (p := 11) (v := .tmp 35) rfl ?_); refine store_ev rfl rfl 26 (.tmp 11) (.tmp 35) rfl rfl rfl (K3.out.get 0 rfl) rfl rfl (by first | (kernel_rfl) | (simp [Value.oneCell'])) ?_; intro W11s hs; have K3' := Aside0.mk (K3.out.stored 0 rfl hs); clear K3; have K3 := K3'; clear K3'; clear hs)
      | ((with_reducible refine gate_dst (N := 36) rfl ?_); refine load_ev rfl 26 (.tmp 11) rfl rfl (K3.out.get 0 rfl) Try.underlying26 rfl ?_)
      | (go_at_call 6; (with_reducible refine (wavelettop_smallPlane.calls k2 z0 z1 z2 z3 A2 c2 D2 true _ (Kd.C_below HR2.out (K.out.below.trans (K3.out.below.mono (K.out.size rfl)))) HC2.out HS2.out).mono ?_); rintro _ w6 ⟨rfl, b⟩; have K3' := Aside0.mk (K3.out.call (below_size K3.out.below) b); clear K3; have K3 := K3'; clear K3'; clear b; have K' := Aside0.mk (K.out.call (K.out.size rfl) K3.out.below); clear K; have K := K'; clear K')
      | ((with_reducible refine gate_dst (N := 41) rfl ?_); (try (refine gate_guard (by rfl) ?_; dsimp only)); refine load_mid_ev (i := 0) (cs := #[.int .i64 z0, .int .i64 z1, .int .i64 z2, .int .i64 z3]) rfl 23 (.tmp 40) rfl rfl (K3.out.get 0 rfl) (fun j v hj => by rcases j with _ | _ | _ | _ | j <;> first | exact hj | (simp at hj)) Try.underlying23 rfl rfl ?_)
      | ((with_reducible refine gate_dst (N := 44) rfl ?_); (try (refine gate_guard (by rfl) ?_; dsimp only)); refine load_mid_ev (i := 0) (cs := #[.int .i64 a0, .int .i64 a1, .int .i64 a2, .int .i64 a3]) rfl 23 (.tmp 43) rfl rfl (K.out.get 0 rfl) (fun j v hj => by rcases j with _ | _ | _ | _ | j <;> first | exact hj | (simp at hj)) Try.underlying23 rfl rfl ?_))
      go_ret
      exact ⟨rfl, K.out.below⟩
    have hee := HEE2.out
    rw [he] at hee
    go_wp2_with (first
      | ((with_reducible refine gate_dst (N := 11) rfl ?_); refine box_event ?hg (N := 11) ?hd (cs := #[.int .i64 0, .int .i64 0, .int .i64 0, .int .i64 0, .slice none 0 0]) (t := 26) ?hr ?_; (case hd => rfl); (case hg => rfl); (case hr => first | (go_simp; done) | (go_simp; rfl)); intro g11 hg W11 hbox hb; have K3 := Aside0.mk (K0.out.box (Nat.le_refl _) hg hbox hb trivial); clear hg hbox hb K0)
      | ((with_reducible refine gate_store (t := 26) (p := 11) (v := .tmp 35) rfl ?_); refine store_ev rfl rfl 26 (.tmp 11) (.tmp 35) rfl rfl rfl (K3.out.get 0 rfl) rfl rfl (by first | (kernel_rfl) | (simp [Value.oneCell'])) ?_; intro W11s hs; have K3' := Aside0.mk (K3.out.stored 0 rfl hs); clear K3; have K3 := K3'; clear K3'; clear hs)
      | ((with_reducible refine gate_dst (N := 36) rfl ?_); refine load_ev rfl 26 (.tmp 11) rfl rfl (K3.out.get 0 rfl) Try.underlying26 rfl ?_)
      | (go_at_call 6; (with_reducible refine (wavelettop_smallPlane.calls k2 z0 z1 z2 z3 A2 c2 D2 true _ (Kd.C_below HR2.out (K.out.below.trans (K3.out.below.mono (K.out.size rfl)))) HC2.out HS2.out).mono ?_); rintro _ w6 ⟨rfl, b⟩; have K3' := Aside0.mk (K3.out.call (below_size K3.out.below) b); clear K3; have K3 := K3'; clear K3'; clear b; have K' := Aside0.mk (K.out.call (K.out.size rfl) K3.out.below); clear K; have K := K'; clear K')
      | ((with_reducible refine gate_dst (N := 41) rfl ?_); (try (refine gate_guard (by rfl) ?_; dsimp only)); refine load_mid_ev (i := 0) (cs := #[.int .i64 z0, .int .i64 z1, .int .i64 z2, .int .i64 z3]) rfl 23 (.tmp 40) rfl rfl (K3.out.get 0 rfl) (fun j v hj => by rcases j with _ | _ | _ | _ | j <;> first | exact hj | (simp at hj)) Try.underlying23 rfl rfl ?_)
      | ((with_reducible refine gate_dst (N := 44) rfl ?_); (try (refine gate_guard (by rfl) ?_; dsimp only)); refine load_mid_ev (i := 0) (cs := #[.int .i64 a0, .int .i64 a1, .int .i64 a2, .int .i64 a3]) rfl 23 (.tmp 43) rfl rfl (K.out.get 0 rfl) (fun j v hj => by rcases j with _ | _ | _ | _ | j <;> first | exact hj | (simp at hj)) Try.underlying23 rfl rfl ?_))
    obtain rfl : gk = 0 + 1 := by omega
    clear hgk
    go_roundg (0)
    case measure => omega
    case rel => exact .inr (.inr (.inr (⟨rfl, by omega, ⟨hd.1, hd.2.1, hd.2.2.1, hd.2.2.2, hr, he⟩, K⟩)))
  exact absurd hd hnot
end Go.Proofs.Ytcnpekpgghppnaa.Q

/- The law TopTransforms for every input. -/
namespace Go.Proofs.Ytcnpekpgghppnaa.Q
open Go.RowKit Go.Proofs.YtcnpekpgghppnaaW.PrintWords Go.Proofs.YtcnpekpgghppnaaW.PrintLast Go.Proofs.YtcnpekpgghppnaaW.PrintMore
set_option linter.unusedVariables false
set_option linter.unusedSimpArgs false

theorem fwd_of {t a b c : Int} (ht : t = 0 ∨ t = 1 ∨ t = 2) (ha : -65536 ≤ a ∧ a ≤ 65536) (hb : -65536 ≤ b ∧ b ≤ 65536) (hc : -65536 ≤ c ∧ c ≤ 65536) :
    fwdPx t a b c = if t = 1 then ((a + 2 * b + c) / 4, c - b, a - b) else if t = 2 then (c + (a - c) / 2 + (b - (c + (a - c) / 2)) / 2, a - c, b - (c + (a - c) / 2)) else (a, b, c) := by
  unfold fwdPx
  rcases ht with rfl | rfl | rfl
  · rfl
  · rw [if_pos rfl, if_pos rfl, wid (n := 2 * b) (by omega) (by omega), wid (n := a + 2 * b) (by omega) (by omega), wid (n := a + 2 * b + c) (by omega) (by omega), wid (n := c - b) (by omega) (by omega), wid (n := a - b) (by omega) (by omega)]
  · rw [if_neg (by decide), if_pos rfl, if_neg (by decide), if_pos rfl, wid (n := a - c) (by omega) (by omega), wid (n := c + (a - c) / 2) (by omega) (by omega), wid (n := b - (c + (a - c) / 2)) (by omega) (by omega), wid (n := c + (a - c) / 2 + (b - (c + (a - c) / 2)) / 2) (by omega) (by omega)]
theorem fwd_bd {t a b c : Int} (ht : t = 0 ∨ t = 1 ∨ t = 2) (ha : -65536 ≤ a ∧ a ≤ 65536) (hb : -65536 ≤ b ∧ b ≤ 65536) (hc : -65536 ≤ c ∧ c ≤ 65536) :
    (-131072 ≤ (fwdPx t a b c).1 ∧ (fwdPx t a b c).1 ≤ 131072) ∧ (-131072 ≤ (fwdPx t a b c).2.1 ∧ (fwdPx t a b c).2.1 ≤ 131072) ∧ (-131072 ≤ (fwdPx t a b c).2.2 ∧ (fwdPx t a b c).2.2 ≤ 131072) := by
  rw [fwd_of ht ha hb hc]
  rcases ht with rfl | rfl | rfl
  · rw [if_neg (by decide), if_neg (by decide)]
    dsimp only
    omega
  · rw [if_pos rfl]
    dsimp only
    omega
  · rw [if_neg (by decide), if_pos rfl]
    dsimp only
    omega
theorem px_back {t a b c : Int} (ht : t = 0 ∨ t = 1 ∨ t = 2) (ha : -65536 ≤ a ∧ a ≤ 65536) (hb : -65536 ≤ b ∧ b ≤ 65536) (hc : -65536 ≤ c ∧ c ≤ 65536) :
    invPx t (fwdPx t a b c).1 (fwdPx t a b c).2.1 (fwdPx t a b c).2.2 = (a, b, c) := by
  rw [fwd_of ht ha hb hc]
  unfold invPx
  rcases ht with rfl | rfl | rfl
  · rfl
  · rw [if_pos rfl, if_pos rfl]
    dsimp only
    rw [wid (n := c - b + (a - b)) (by omega) (by omega), wid (n := (a + 2 * b + c) / 4 - (c - b + (a - b)) / 4) (by omega) (by omega), show (a + 2 * b + c) / 4 - (c - b + (a - b)) / 4 = b by omega, wid (n := a - b + b) (by omega) (by omega), wid (n := c - b + b) (by omega) (by omega), Int.sub_add_cancel, Int.sub_add_cancel]
  · rw [if_neg (by decide), if_pos rfl, if_neg (by decide), if_pos rfl]
    dsimp only
    generalize hm : c + (a - c) / 2 = m
    have hm1 : -131072 ≤ m ∧ m ≤ 131072 := by omega
    rw [wid (n := m + (b - m) / 2 - (b - m) / 2) (by omega) (by omega), Int.add_sub_cancel, wid (n := m - (a - c) / 2) (by omega) (by omega), show m - (a - c) / 2 = c by omega, wid (n := c + (a - c)) (by omega) (by omega), wid (n := b - m + m) (by omega) (by omega), Int.sub_add_cancel, show c + (a - c) = a by omega]
theorem ch_len {fq : Int → Int → Int → Int → Int × Int × Int} {t : Int} {sel : Int × Int × Int → Int} {D0 D1 D2 : List Int} {i : Nat} : (chF fq t sel D0 D1 D2 i).length = D0.length := by simp [chF]
theorem PV.same {x0 y0 x1 y1 : Int} {D E : List Int} (h : PV x0 y0 x1 y1 D) (hl : E.length = D.length) : PV x0 y0 x1 y1 E := by
  obtain ⟨a, b, c, d⟩ := h
  exact ⟨a, b, c, by rw [hl]; exact d⟩
theorem PV.len {x0 y0 x1 y1 : Int} {D E : List Int} (h : PV x0 y0 x1 y1 D) (h' : PV x0 y0 x1 y1 E) : E.length = D.length := by
  have a := h.2.2.2
  have b := h'.2.2.2
  omega
theorem alike3 {x0 y0 x1 y1 b : Int} {D0 D1 D2 : List Int} {v0 v1 v2 : Value} (h0 : PV x0 y0 x1 y1 D0 ∧ Bd b D0) (h1 : PV x0 y0 x1 y1 D1 ∧ Bd b D1) (h2 : PV x0 y0 x1 y1 D2 ∧ Bd b D2) : Alike x0 y0 x1 y1 b [(v0, ⟨x0, y0, x1, y1, D0⟩), (v1, ⟨x0, y0, x1, y1, D1⟩), (v2, ⟨x0, y0, x1, y1, D2⟩)] := by
  intro j p hp
  match j, hp with
  | 0, hp =>
    obtain rfl := Option.some.inj hp
    exact ⟨⟨rfl, rfl, rfl, rfl⟩, h0⟩
  | 1, hp =>
    obtain rfl := Option.some.inj hp
    exact ⟨⟨rfl, rfl, rfl, rfl⟩, h1⟩
  | 2, hp =>
    obtain rfl := Option.some.inj hp
    exact ⟨⟨rfl, rfl, rfl, rfl⟩, h2⟩
  | j + 3, hp => simp at hp
theorem knownT_total (t : Int) : ∃ r, wavelettop_knownTransform.f t = some r ∧ (r = true → t = 0 ∨ t = 1 ∨ t = 2) := by
  unfold wavelettop_knownTransform.f
  split
  · exact ⟨_, rfl, fun h => by have := of_decide_eq_true h; omega⟩
  · exact ⟨_, rfl, fun h => by cases h⟩
theorem margin2 {kk : Int} (h : 1 ≤ kk ∧ kk ≤ 3) : ∃ mg, lift_Margin.f 1 kk = some mg ∧ mg ≠ 0 := by
  have : kk = 1 ∨ kk = 2 ∨ kk = 3 := by omega
  rcases this with rfl | rfl | rfl
  · exact ⟨2, by decide, by decide⟩
  · exact ⟨2, by decide, by decide⟩
  · exact ⟨4, by decide, by decide⟩
/-- The law TopTransforms answers true, whatever it is asked. -/
theorem TopTransforms.true_ (L t kk a0 a1 a2 a3 b0 b1 b2 b3 c0 c1 c2 c3 : Int) (A0 A1 A2 : Option Addr) (d0 d1 d2 : Nat) (D0 D1 D2 : List Int) (w : World) (hr0 : Kd.C (Kd.int .i64) w A0 D0.length D0) (hc0 : D0.length ≤ d0) (hr1 : Kd.C (Kd.int .i64) w A1 D1.length D1) (hc1 : D1.length ≤ d1) (hr2 : Kd.C (Kd.int .i64) w A2 D2.length D2) (hc2 : D2.length ≤ d2) (hL0 : 0 ≤ L) (hL1 : L ≤ 255) :
    Calls Try.prog 5 #[.agg #[.int .i64 a0, .int .i64 a1, .int .i64 a2, .int .i64 a3, .slice A0 D0.length d0, .int .i64 b0, .int .i64 b1, .int .i64 b2, .int .i64 b3, .slice A1 D1.length d1, .int .i64 c0, .int .i64 c1, .int .i64 c2, .int .i64 c3, .slice A2 D2.length d2], .int .i64 t, .int .u8 L, .int .i64 kk] w fun e w' => e = .returned (.bool true) ∧ Below w.heap.size w w' := by
  have hLw : IntKind.i64.wrap L = L := by rw [i64_w, wid (by omega) (by omega)]
  obtain ⟨q, hkn, hkr⟩ := known_total kk
  cases q with
  | false => exact TopTransforms.skipK L t kk a0 a1 a2 a3 b0 b1 b2 b3 c0 c1 c2 c3 A0 A1 A2 d0 d1 d2 D0 D1 D2 w hLw hkn
  | true =>
  obtain ⟨qt, hkt, htr⟩ := knownT_total t
  cases qt with
  | false => exact TopTransforms.skipT L t kk a0 a1 a2 a3 b0 b1 b2 b3 c0 c1 c2 c3 A0 A1 A2 d0 d1 d2 D0 D1 D2 w hLw hkn hkt
  | true =>
  have hkk := hkr rfl
  have ht := htr rfl
  obtain ⟨k0, r0, hs0, hp0⟩ := small_total a0 a1 a2 a3 D0
  obtain ⟨k1, r1, hs1, hp1⟩ := small_total b0 b1 b2 b3 D1
  obtain ⟨k2, r2, hs2, hp2⟩ := small_total c0 c1 c2 c3 D2
  obtain ⟨e0, he0⟩ : ∃ e, (a0 == a0 && (a1 == a1 && (a2 == a2 && (a3 == a3)))) = e := ⟨_, rfl⟩
  obtain ⟨e1, he1⟩ : ∃ e, (b0 == a0 && (b1 == a1 && (b2 == a2 && (b3 == a3)))) = e := ⟨_, rfl⟩
  obtain ⟨e2, he2⟩ : ∃ e, (c0 == a0 && (c1 == a1 && (c2 == a2 && (c3 == a3)))) = e := ⟨_, rfl⟩
  by_cases hall : r0 = true ∧ e0 = true ∧ r1 = true ∧ e1 = true ∧ r2 = true ∧ e2 = true
  rotate_left
  · exact TopTransforms.skipL k0 k1 k2 r0 r1 r2 e0 e1 e2 L t kk a0 a1 a2 a3 b0 b1 b2 b3 c0 c1 c2 c3 A0 A1 A2 d0 d1 d2 D0 D1 D2 w hLw hkn hkt hr0 hc0 hs0 he0 hr1 hc1 hs1 he1 hr2 hc2 hs2 he2 hall
  obtain ⟨rfl, rfl, rfl, rfl, rfl, rfl⟩ := hall
  simp only [Bool.and_eq_true, beq_iff_eq] at he1 he2
  obtain ⟨rfl, rfl, rfl, rfl⟩ := he1
  obtain ⟨rfl, rfl, rfl, rfl⟩ := he2
  obtain ⟨v0, l0, bd0⟩ := hp0 rfl
  obtain ⟨v1, l1, bd1⟩ := hp1 rfl
  obtain ⟨v2, l2, bd2⟩ := hp2 rfl
  have hl1 := v0.len v1
  have hl2 := v0.len v2
  obtain ⟨n, hn⟩ : ∃ n : Nat, (n : Int) = L % 6 := ⟨(L % 6).toNat, by omega⟩
  have hn5 : n ≤ 5 := by omega
  obtain ⟨mg, hm, hmg⟩ := margin2 hkk
  obtain ⟨wd, m, hw, hmm, hD, hl⟩ := v0.nat
  obtain ⟨⟨p1, p2, p3⟩, ⟨q1, q2, q3⟩, _, _⟩ := id v0
  have hrs := res_of hn5 (Nat.le_refl n) (x0 := c0) (y0 := c1) (x1 := c2) (y1 := c3) ⟨p1, p2, p3⟩ ⟨q1, q2, q3⟩
  rw [Nat.sub_self, cd_zero, cd_zero, cd_zero, cd_zero] at hrs
  have hb : ∀ j : Nat, (-65536 ≤ rd D0 (j : Int) ∧ rd D0 (j : Int) ≤ 65536) ∧ (-65536 ≤ rd D1 (j : Int) ∧ rd D1 (j : Int) ≤ 65536) ∧ (-65536 ≤ rd D2 (j : Int) ∧ rd D2 (j : Int) ≤ 65536) := fun j => ⟨bd0.at_ (by decide) j, bd1.at_ (by decide) j, bd2.at_ (by decide) j⟩
  have hE : ∀ (sel : Int × Int × Int → Int), (∀ p : Int × Int × Int, sel p = p.1 ∨ sel p = p.2.1 ∨ sel p = p.2.2) → Bd 131072 (chF fwdPx t sel D0 D1 D2 D0.length) := by
    intro sel hsel
    refine Bd.of_rd fun j hj => ?_
    rw [ch_len] at hj
    rw [chF_rd hj, if_pos hj]
    have h := fwd_bd ht (hb j).1 (hb j).2.1 (hb j).2.2
    rcases hsel (fwdPx t (rd D0 (j : Int)) (rd D1 (j : Int)) (rd D2 (j : Int))) with e | e | e <;> rw [e]
    · exact h.1
    · exact h.2.1
    · exact h.2.2
  obtain ⟨E0, hE0⟩ : ∃ E, E = chF fwdPx t (fun p => p.1) D0 D1 D2 D0.length := ⟨_, rfl⟩
  obtain ⟨E1, hE1⟩ : ∃ E, E = chF fwdPx t (fun p => p.2.1) D0 D1 D2 D0.length := ⟨_, rfl⟩
  obtain ⟨E2, hE2⟩ : ∃ E, E = chF fwdPx t (fun p => p.2.2) D0 D1 D2 D0.length := ⟨_, rfl⟩
  have n0 : E0.length = D0.length := by rw [hE0, ch_len]
  have n1 : E1.length = D0.length := by rw [hE1, ch_len]
  have n2 : E2.length = D0.length := by rw [hE2, ch_len]
  have B0 : Bd 131072 E0 := by rw [hE0]; exact hE _ (fun p => .inl rfl)
  have B1 : Bd 131072 E1 := by rw [hE1]; exact hE _ (fun p => .inr (.inl rfl))
  have B2 : Bd 131072 E2 := by rw [hE2]; exact hE _ (fun p => .inr (.inr rfl))
  have V0 := v0.same n0
  have V1 := v0.same n1
  have V2 := v0.same n2
  have hback : ∀ (sel : Int × Int × Int → Int) (D : List Int), D.length = D0.length → (∀ j : Nat, sel (rd D0 (j : Int), rd D1 (j : Int), rd D2 (j : Int)) = rd D (j : Int)) → chF invPx t sel E0 E1 E2 E0.length = D := by
    intro sel D hDl hs
    refine ext_rd (by rw [ch_len, n0, hDl]) fun j hj => ?_
    rw [ch_len] at hj
    have hj' : j < D0.length := by omega
    rw [chF_rd hj, if_pos hj, hE0, hE1, hE2, chF_rd hj', chF_rd hj', chF_rd hj', if_pos hj', if_pos hj', if_pos hj', px_back ht (hb j).1 (hb j).2.1 (hb j).2.2]
    exact hs j
  have hpy : ∀ E : List Int, PV c0 c1 c2 c3 E → Bd 131072 E → PyrOk kk n ⟨c0, c1, c2, c3, E⟩ := by
    intro E hv hbE
    obtain ⟨bs, u, i1, i2, i3, i4, i5, i6⟩ := pyr_ok hkk hn5 hv (hbE.mono (by decide))
    have hlE := v0.len hv
    exact ⟨hv, pexceeds_f (hbE.mono (by decide)) (by decide) (by decide) (by show E.length < 2000000; omega) (by decide), bs, u, i1, i2, i3, i4, fun j b hj => (i5 j b hj).1⟩
  refine TopTransforms.good n 1 1 3000000 k0 k1 k2 kk mg L t _ c0 c1 c2 c3 A0 A1 A2 d0 d1 d2 D0 D1 D2 E0 E1 E2 w hr0 hr1 hr2 hc0 hc1 hc2 hs0 hs1 hs2 hkn hkt ht hm hmg hn5 ⟨hE0, hE1, hE2⟩ ⟨by omega, hl1, hl2⟩
    (alike3 ⟨v0, bd0.mono (by decide)⟩ ⟨v1, bd1.mono (by decide)⟩ ⟨v2, bd2.mono (by decide)⟩) ?_ hrs (ra_of ⟨p1, p3⟩ ⟨q1, q3⟩ hw hmm hl) (by omega) (rv_of ⟨p1, p2, p3⟩ ⟨q1, q2, q3⟩)
    ⟨hback _ D0 rfl (fun j => rfl), hback _ D1 hl1 (fun j => rfl), hback _ D2 hl2 (fun j => rfl)⟩ (fun u0 u1 u2 => alike3 ⟨V0, B0.mono (by decide)⟩ ⟨V1, B1.mono (by decide)⟩ ⟨V2, B2.mono (by decide)⟩) ⟨by omega, by omega, by omega⟩ (same_all (by show 3 ≤ 1000; omega) (fun s hs => ?_)) ⟨hLw, by rw [Int.tmod_eq_emod_of_nonneg hL0, hn]⟩
  · intro e he
    simp only [List.mem_cons, List.not_mem_nil, or_false] at he
    rcases he with rfl | rfl | rfl
    · exact hpy E0 V0 B0
    · exact hpy E1 V1 B1
    · exact hpy E2 V2 B2
  · simp only [List.mem_cons, List.not_mem_nil, or_false] at hs
    rcases hs with rfl | rfl | rfl
    · show D0.length ≤ 2000000; omega
    · show D1.length ≤ 2000000; omega
    · show D2.length ≤ 2000000; omega
end Go.Proofs.Ytcnpekpgghppnaa.Q

/- The contract of the law TopTransforms, as its row wants it. -/
namespace Go.Proofs.Ytcnpekpgghppnaa.Q
open Go.RowKit Go.Proofs.YtcnpekpgghppnaaW.PrintWords Go.Proofs.YtcnpekpgghppnaaW.PrintLast Go.Proofs.YtcnpekpgghppnaaW.PrintMore
set_option linter.unusedVariables false
/-- What the law answers: true, where its byte is a byte. -/
def wavelettop_TopTransforms.f (a0_0 : Int) (a0_1 : Int) (a0_2 : Int) (a0_3 : Int) (l0_4 : List Int) (a0_5 : Int) (a0_6 : Int) (a0_7 : Int) (a0_8 : Int) (l0_9 : List Int) (a0_10 : Int) (a0_11 : Int) (a0_12 : Int) (a0_13 : Int) (l0_14 : List Int) (a1 : Int) (a2 : Int) (a3 : Int) : Option Bool := if 0 ≤ a2 ∧ a2 ≤ 255 then some true else none
theorem wavelettop_TopTransforms.calls (a0_0 : Int) (a0_1 : Int) (a0_2 : Int) (a0_3 : Int) (A0_4 : Option Addr) (c0_4 : Nat) (l0_4 : List Int) (a0_5 : Int) (a0_6 : Int) (a0_7 : Int) (a0_8 : Int) (A0_9 : Option Addr) (c0_9 : Nat) (l0_9 : List Int) (a0_10 : Int) (a0_11 : Int) (a0_12 : Int) (a0_13 : Int) (A0_14 : Option Addr) (c0_14 : Nat) (l0_14 : List Int) (a1 : Int) (a2 : Int) (a3 : Int) (r : Bool) (hr_ : r = true) (w : World) (hr0_4 : Kd.C (Kd.int .i64) w A0_4 l0_4.length l0_4) (hc0_4 : l0_4.length ≤ c0_4) (hr0_9 : Kd.C (Kd.int .i64) w A0_9 l0_9.length l0_9) (hc0_9 : l0_9.length ≤ c0_9) (hr0_14 : Kd.C (Kd.int .i64) w A0_14 l0_14.length l0_14) (hc0_14 : l0_14.length ≤ c0_14) (h : wavelettop_TopTransforms.f a0_0 a0_1 a0_2 a0_3 l0_4 a0_5 a0_6 a0_7 a0_8 l0_9 a0_10 a0_11 a0_12 a0_13 l0_14 a1 a2 a3 = some r) :
    Calls Try.prog 5 #[.agg #[.int .i64 a0_0, .int .i64 a0_1, .int .i64 a0_2, .int .i64 a0_3, .slice A0_4 l0_4.length c0_4, .int .i64 a0_5, .int .i64 a0_6, .int .i64 a0_7, .int .i64 a0_8, .slice A0_9 l0_9.length c0_9, .int .i64 a0_10, .int .i64 a0_11, .int .i64 a0_12, .int .i64 a0_13, .slice A0_14 l0_14.length c0_14], .int .i64 a1, .int .u8 a2, .int .i64 a3] w fun e w' => e = .returned (.bool r) ∧ Below w.heap.size w w' := by
  unfold wavelettop_TopTransforms.f at h
  split at h
  · rename_i hb
    subst hr_
    exact TopTransforms.true_ a2 a1 a3 a0_0 a0_1 a0_2 a0_3 a0_5 a0_6 a0_7 a0_8 a0_10 a0_11 a0_12 a0_13 A0_4 A0_9 A0_14 c0_4 c0_9 c0_14 l0_4 l0_9 l0_14 w hr0_4 hc0_4 hr0_9 hc0_9 hr0_14 hc0_14 hb.1 hb.2
  · cases h
end Go.Proofs.Ytcnpekpgghppnaa.Q

/- The law TopTransforms: its byte is a byte, so it answers true. -/
namespace Go.Proofs.Ytcnpekpgghppnaa.Pure
set_option linter.unusedVariables false
open Go.RowKit Go.Proofs.Ytcnpekpgghppnaa.Q Go.Proofs.YtcnpekpgghppnaaW.PrintWords
theorem TopTransforms (a0_0 : Int) (a0_1 : Int) (a0_2 : Int) (a0_3 : Int) (l0_4 : List (Int)) (a0_5 : Int) (a0_6 : Int) (a0_7 : Int) (a0_8 : Int) (l0_9 : List (Int)) (a0_10 : Int) (a0_11 : Int) (a0_12 : Int) (a0_13 : Int) (l0_14 : List (Int)) (a1 : Int) (a2 : Int) (a3 : Int) (w0_0 : (Lit.int .i64 a0_0).wf = true) (w0_1 : (Lit.int .i64 a0_1).wf = true) (w0_2 : (Lit.int .i64 a0_2).wf = true) (w0_3 : (Lit.int .i64 a0_3).wf = true) (y0_4 : l0_4.length * 8 ≤ 140737488351232) (w0_4 : ∀ x ∈ l0_4, (Lit.int .i64 x).wf = true) (w0_5 : (Lit.int .i64 a0_5).wf = true) (w0_6 : (Lit.int .i64 a0_6).wf = true) (w0_7 : (Lit.int .i64 a0_7).wf = true) (w0_8 : (Lit.int .i64 a0_8).wf = true) (y0_9 : l0_9.length * 8 ≤ 140737488351232) (w0_9 : ∀ x ∈ l0_9, (Lit.int .i64 x).wf = true) (w0_10 : (Lit.int .i64 a0_10).wf = true) (w0_11 : (Lit.int .i64 a0_11).wf = true) (w0_12 : (Lit.int .i64 a0_12).wf = true) (w0_13 : (Lit.int .i64 a0_13).wf = true) (y0_14 : l0_14.length * 8 ≤ 140737488351232) (w0_14 : ∀ x ∈ l0_14, (Lit.int .i64 x).wf = true) (w1 : (Lit.int .i64 a1).wf = true) (w2 : (Lit.int .u8 a2).wf = true) (w3 : (Lit.int .i64 a3).wf = true) : wavelettop_TopTransforms.f a0_0 a0_1 a0_2 a0_3 l0_4 a0_5 a0_6 a0_7 a0_8 l0_9 a0_10 a0_11 a0_12 a0_13 l0_14 a1 a2 a3 = some true := by
  have h2 : 0 ≤ a2 ∧ a2 ≤ 255 := by
    simp [Lit.wf, IntKind.min, IntKind.max, IntKind.bits, IntKind.signed] at w2
    omega
  unfold wavelettop_TopTransforms.f
  rw [if_pos h2]
end Go.Proofs.Ytcnpekpgghppnaa.Pure

/- How an argument of a law is opened as a value of a printed kind, for any type that is built of integers, bools, strings, slices and structs: 'Opens P t d ok' says that what reads as data of type t holds the cells of some v of kind d, with ok v. -/
namespace Go.Proofs.Ytcnpekpgghppnaa.Open
open Go.RowKit Go.Proofs.YtcnpekpgghppnaaW.PrintWords

def Light {H : Type} (P : Program) (t : TypeId) (d : DataW H) : Prop := ∀ n ∈ d.weights P t, n ≤ 140737488351232

structure Opens {α : Type} (P : Program) (t : TypeId) (d : Kd α) (ok : α → Prop) : Prop where
  size : P.cellsOf t = d.sz
  opens : ∀ {H : Type} {enc : TypeId × Value → H} {w : World} {base : Nat} {spare : Nat → Bool} {held : Bool} {fuel : Nat} {cs : List Value} {x : DataW H × List MemPlace},
    DataW.trod enc P w base spare held fuel t cs = some x → Light P t x.1 → ∃ v, d.K w v cs ∧ ok v

theorem opens_int {P : Program} {t : TypeId} {k : IntKind} (ht : P.underlying t = some (.int k)) (hc : P.cellsOf t = 1) : Opens P t (Kd.int k) (fun n => (Lit.int k n).wf = true) :=
  ⟨hc, fun h _ => by
    obtain ⟨n, rfl, _, hw⟩ := DataW.trod_int ht h
    exact ⟨n, rfl, hw⟩⟩
theorem list_of_lt {α : Type} {p : Nat → α → Prop} : ∀ (n : Nat), (∀ i, i < n → ∃ v, p i v) → ∃ l : List α, l.length = n ∧ ∀ i v, l[i]? = some v → p i v
  | 0, _ => ⟨[], rfl, fun i v h => by simp at h⟩
  | n + 1, h => by
    obtain ⟨l, hl, hp⟩ := list_of_lt n (fun i hi => h i (by omega))
    obtain ⟨v, hv⟩ := h n (by omega)
    refine ⟨l ++ [v], by simp [hl], fun i u hu => ?_⟩
    rcases Nat.lt_or_ge i n with hi | hi
    · rw [List.getElem?_append_left (by omega)] at hu
      exact hp i u hu
    · rw [List.getElem?_append_right (by omega), hl] at hu
      have hi0 : i - n = 0 := by
        rcases Nat.eq_zero_or_pos (i - n) with h0 | h0
        · exact h0
        · rw [List.getElem?_eq_none (by simp; omega)] at hu
          cases hu
      rw [hi0] at hu
      have : i = n := by omega
      subst this
      have e : v = u := by simpa using hu
      subst e
      exact hv

theorem weightsAll_mem {H : Type} {P : Program} {e : TypeId} : ∀ {ds : List (DataW H)} {j : Nat} {d : DataW H}, ds[j]? = some d → ∀ n ∈ d.weights P e, n ∈ DataW.weightsAll P e ds
  | d0 :: ds, 0, d, hd, n, hn => by
    simp only [List.getElem?_cons_zero, Option.some.injEq] at hd
    subst hd
    simp only [DataW.weightsAll, List.mem_append]
    exact Or.inl hn
  | d0 :: ds, j + 1, d, hd, n, hn => by
    simp only [List.getElem?_cons_succ] at hd
    simp only [DataW.weightsAll, List.mem_append]
    exact Or.inr (weightsAll_mem hd n hn)
  | [], _, _, hd, _, _ => by simp at hd

theorem opens_slice {α : Type} {P : Program} {t e : TypeId} {d : Kd α} {ok : α → Prop} {B : Nat} (ht : P.underlying t = some (.slice e)) (hc : P.cellsOf t = 1) (hB : P.bytesOf e = B) (he : Opens P e d ok) :
    Opens P t (Kd.slice e d) (fun l => l.length * B ≤ 140737488351232 ∧ ∀ x ∈ l, ok x) :=
  ⟨hc, by
    intro H enc w base spare held fuel cs x h hl
    rcases DataW.trod_slice ht h with ⟨rfl, rfl⟩ | ⟨a, len, cap, elems, rest, n, _, rfl, rfl, hb, hlc, hm, hlen, hel, _, _⟩
    · exact ⟨[], ⟨none, 0, rfl, Nat.le_refl _, rfl, by simp, fun h0 => by simp at h0⟩, by simp, by simp⟩
    · have key : ∀ i, i < len → ∃ v : α, (∃ cs', w.cells? base (a.add (i * P.cellsOf e)) (P.cellsOf e) = some cs' ∧ d.K w v cs') ∧ ok v := by
        intro i hi
        have h1 := hel i hi
        rw [List.getElem?_eq_getElem (by omega)] at h1
        obtain ⟨cs', h2, h3⟩ := Option.bind_eq_some_iff.1 h1
        obtain ⟨v, hv, ho⟩ := he.opens h3 (fun m hm2 => hl m (by
          simp only [DataW.weights, ht, List.mem_cons, List.mem_append]
          exact Or.inr (Or.inl (weightsAll_mem (j := i) (by simp [List.getElem?_eq_getElem (show i < elems.length by omega)]) m hm2))))
        exact ⟨v, ⟨cs', h2, hv⟩, ho⟩
      obtain ⟨l, hll, hp⟩ := list_of_lt len key
      have hw := hl _ (by
        simp only [DataW.weights, ht]
        exact List.mem_cons_self)
      rw [hB] at hw
      refine ⟨l, ⟨some a, cap, by rw [hll], by omega, rfl, by unfold maxLen at hm; omega, fun _ => ⟨a, rfl, ?_⟩⟩, ?_, ?_⟩
      · intro j p hj
        obtain ⟨⟨cs', h2, hv⟩, _⟩ := hp j p hj
        obtain ⟨_, h4, h5⟩ := World.cells?_some h2
        refine ⟨cs', d.K_len hv, hv, fun i u hu => ?_⟩
        have hi : i < P.cellsOf e := by
          rw [← h4]
          exact (List.getElem?_eq_some_iff.1 hu).1
        rw [← hu, ← h5 i hi, he.size]
        congr 1
        simp only [Addr.add]
        split <;> split <;> split <;> first | rfl | omega | (simp; omega) | simp_all
      · have h6 : len ≤ (elems.map (·.1)).length + (rest.map (·.1)).length := by simp; omega
        rw [hll]
        exact Nat.le_trans (Nat.mul_le_mul_right B h6) hw
      · intro x hx
        obtain ⟨j, hj⟩ := List.mem_iff_getElem?.1 hx
        exact (hp j x hj).2⟩

def Parts {α : Type} (P : Program) (fs : List Field) (off total : Nat) (d : Kd α) (ok : α → Prop) : Prop :=
  ∀ {H : Type} {enc : TypeId × Value → H} {w : World} {base : Nat} {spare : Nat → Bool} {held : Bool} {n : Nat} {cs : List Value} (xs : List (DataW H × List MemPlace)), cs.length = total → xs.length = fs.length →
    (∀ (i : Nat) (f : Field), fs[i]? = some f → DataW.trod enc P w base spare held n f.type ((cs.drop f.offset).take (P.cellsOf f.type)) = xs[i]?) →
    (∀ (i : Nat) (f : Field) y, fs[i]? = some f → xs[i]? = some y → Light P f.type y.1) → ∃ v, d.K w v (cs.drop off) ∧ ok v

theorem parts_one {α : Type} {P : Program} {f : Field} {off total : Nat} {d : Kd α} {ok : α → Prop} (he : Opens P f.type d ok) (ho : f.offset = off) (hs : off + d.sz = total) : Parts P [f] off total d ok := by
  intro H enc w base spare held n cs xs hl hx h hw
  match xs, hx with
  | [y], _ =>
    have h0 := h 0 f rfl
    obtain ⟨v, hv, hk⟩ := he.opens h0 (hw 0 f y rfl rfl)
    refine ⟨v, ?_, hk⟩
    rw [ho, List.take_of_length_le (by rw [List.length_drop, he.size]; omega)] at hv
    exact hv
theorem parts_cons {α β : Type} {P : Program} {f : Field} {fs : List Field} {off total : Nat} {d : Kd α} {d2 : Kd β} {ok : α → Prop} {ok2 : β → Prop} (he : Opens P f.type d ok) (ho : f.offset = off) (h2 : Parts P fs (off + d.sz) total d2 ok2) :
    Parts P (f :: fs) off total (Kd.pair d d2) (fun p => ok p.1 ∧ ok2 p.2) := by
  intro H enc w base spare held n cs xs hl hx h hw
  match xs, hx with
  | y :: ys, hy =>
    have h0 := h 0 f rfl
    obtain ⟨v, hv, hk⟩ := he.opens h0 (hw 0 f y rfl rfl)
    obtain ⟨u, hu, hk2⟩ := h2 ys hl (by simpa using hy) (fun i g hg => h (i + 1) g (by simpa using hg)) (fun i g z hg hz => hw (i + 1) g z (by simpa using hg) (by simpa using hz))
    refine ⟨(v, u), ⟨_, _, ?_, hv, hu⟩, hk, hk2⟩
    rw [ho, he.size, ← List.drop_drop]
    exact (List.take_append_drop d.sz (cs.drop off)).symm
theorem opens_struct {α β : Type} {P : Program} {t : TypeId} {fs : Array Field} {d : Kd α} {ok : α → Prop} (ht : P.underlying t = some (.struct fs)) (hc : P.cellsOf t = d.sz) (h2 : Parts P fs.toList 0 (P.cellsOf t) d ok) (f : β → α) (g : α → β) (hfg : ∀ v, f (g v) = v) :
    Opens P t (Kd.iso d f) (fun x => ok (f x)) :=
  ⟨hc, by
    intro H enc w base spare held fuel cs x h hl
    obtain ⟨xs, n, _, rfl, hcl, hxl, hf⟩ := DataW.trod_struct ht h
    obtain ⟨v, hv, hk⟩ := h2 (cs := cs) xs hcl (by simpa using hxl) (fun i fd hi => hf i fd (by simpa using hi)) (fun i fd y hi hy m hm => hl m (by
      simp only [DataW.weights, ht]
      exact DataW.weights_mem_each (j := i) (by rw [List.getElem?_map, hi]; rfl) (by rw [List.getElem?_map, hy]; rfl) m hm))
    refine ⟨g v, ?_, ?_⟩
    · show d.K w (f (g v)) cs
      rw [hfg]
      simpa using hv
    · show ok (f (g v))
      rw [hfg]
      exact hk⟩

theorem light_of {H : Type} {P : Program} {ts : List TypeId} {ds : List (DataW H)} (hsz : (DataW.weightsEach P ts ds).all (· ≤ reachBytes) = true) {j : Nat} {t : TypeId} {d : DataW H} (ht : ts[j]? = some t) (hd : ds[j]? = some d) : Light P t d := by
  intro n hn
  have h1 := List.all_eq_true.1 hsz n (DataW.weights_mem_each ht hd n hn)
  have h2 : n ≤ reachBytes := by simpa using h1
  exact Nat.le_trans h2 (by decide)
end Go.Proofs.Ytcnpekpgghppnaa.Open

/- An array's cells, opened like a struct's: an addition to the opening of arguments by type. -/
namespace Go.Proofs.Ytcnpekpgghppnaa.Open
open Go.RowKit Go.Proofs.YtcnpekpgghppnaaW.PrintWords

def fld (t : TypeId) (o : Nat) : Field := { name := "", type := t, offset := o, byteOffset := 0, embedded := false, tag := "", pkgPath := "" }
theorem opens_array {α β : Type} {P : Program} {t e : TypeId} {n sz : Nat} {d : Kd α} {ok : α → Prop} (fs : List Field) (ht : P.underlying t = some (.array n e)) (hs : P.cellsOf e = sz) (hc : P.cellsOf t = d.sz) (hfs : fs = (List.range n).map fun i => fld e (i * sz)) (h2 : Parts P fs 0 (P.cellsOf t) d ok) (f : β → α) (g : α → β) (hfg : ∀ v, f (g v) = v) :
    Opens P t (Kd.iso d f) (fun x => ok (f x)) :=
  ⟨hc, by
    intro H enc w base spare held fuel cs x h hl
    obtain ⟨xs, m, _, rfl, hcl, hxl, hx⟩ := DataW.trod_array ht h
    have hget : ∀ (i : Nat) (fd : Field), fs[i]? = some fd → i < n ∧ fd = fld e (i * sz) := by
      intro i fd hi
      rw [hfs, List.getElem?_map] at hi
      rcases Nat.lt_or_ge i n with hlt | hge
      · rw [List.getElem?_range hlt] at hi
        exact ⟨hlt, (Option.some.inj hi).symm⟩
      · rw [List.getElem?_eq_none (by simpa using hge)] at hi
        cases hi
    obtain ⟨v, hv, hk⟩ := h2 (cs := cs) xs hcl (by rw [hfs]; simpa using hxl) (fun i fd hi => by
      obtain ⟨hlt, rfl⟩ := hget i fd hi
      have := hx i hlt
      rw [hs] at this
      show DataW.trod enc P w base spare held m e ((cs.drop (i * sz)).take (P.cellsOf e)) = xs[i]?
      rw [hs]
      exact this) (fun i fd y hi hy k hk => hl k (by
      obtain ⟨hlt, rfl⟩ := hget i fd hi
      simp only [DataW.weights, ht]
      exact weightsAll_mem (j := i) (by rw [List.getElem?_map, hy]; rfl) k hk))
    refine ⟨g v, ?_, ?_⟩
    · show d.K w (f (g v)) cs
      rw [hfg]
      simpa using hv
    · show ok (f (g v))
      rw [hfg]
      exact hk⟩
theorem okWide_array {P : Program} {w : World} {r : Reach} {base : Nat} {t e : TypeId} {n : Nat} {v : Value} (ht : P.underlying t = some (.array n e)) (h : Value.okWide P w r base t v) : ∃ cs, v = .agg cs ∧ cs.size = P.cellsOf t := by
  simp only [Value.okWide, ht] at h
  obtain ⟨cs, h1, h2, _⟩ := h
  exact ⟨cs, h1, h2⟩
end Go.Proofs.Ytcnpekpgghppnaa.Open

/- The row of TopTransforms, out of its pure law (Pure.TopTransforms) and the contract of the function; no condition. Written by wip/tools/lawrow.py of this session. -/
namespace Go.Proofs.Ytcnpekpgghppnaa.topTransforms
open Go.ChangeShapes Go.WideShapes Go.ChangeAt Go.RowKit Go.Proofs.Ytcnpekpgghppnaa.Q Go.Proofs.YtcnpekpgghppnaaW.PrintWords Go.Proofs.Ytcnpekpgghppnaa.Open
open Go.ChangeMaps (open_string shut_string)
set_option linter.unusedVariables false
theorem own : ownKnob Try.prog.godebug = none := by kernel_rfl
theorem laidOut : laidOutB Try.prog = true := by kernel_rfl
set_option maxRecDepth 100000 in
theorem lifted (os : Os) (started : os.Started) (H : Type) (enc : TypeId × Value → H) :
    ReturnsInHanded {} Try.checked os 5 .any (Rows.topTransformsSpec.pre6 enc Try.prog Try.f5 Rows.topTransformsRow.domain false) (Rows.topTransformsSpec.post enc Try.prog Try.f5 false true false false) := by
  refine returnsInHanded_of_change_sized (C := Try.checked) own started (by kernel_rfl) Try.func5
    (ChangeSpec.witness6 (enc := enc) (C := Try.checked) false ⟨#[], #[.agg #[.int .i64 0, .int .i64 0, .int .i64 0, .int .i64 0, .slice none 0 0, .int .i64 0, .int .i64 0, .int .i64 0, .int .i64 0, .slice none 0 0, .int .i64 0, .int .i64 0, .int .i64 0, .int .i64 0, .slice none 0 0], .int .i64 0, .int .u8 0, .int .i64 0], []⟩ 8 (by kernel_rfl) (by kernel_rfl) (by kernel_rfl) (by kernel_rfl)) ?_
  intro W base args ds gs before hval0 hW hcnd hsz0 _
  have hsz : (DataW.weightsEach Try.prog (Try.f5.params.toList ++ Rows.topTransformsSpec.plain.varTypes Try.prog) (ds ++ gs)).all (· ≤ reachBytes) = true := hsz0
  have hval : ∀ (j : Nat) t v, Try.f5.params[j]? = some t → args[j]? = some v → Value.okWide Try.prog W .any base t v := hval0
  have hW' := hW
  obtain ⟨p, q, hA0, hV, rfl, hfz, hnd⟩ := hW
  have hA : DataW.TrodAll enc Try.prog W 0 (fun _ => true) true Try.f5.params.toList args.toList ds p := hA0
  rw [Try.params5] at hA hval hsz
  obtain ⟨v0, vs0, d0, ds0, p0, q0, hargs, rfl, rfl, h0, r0⟩ := trodAll_cons hA
  obtain ⟨v1, vs1, d1, ds1, p1, q1, rfl, rfl, rfl, h1, r1⟩ := trodAll_cons r0
  obtain ⟨v2, vs2, d2, ds2, p2, q2, rfl, rfl, rfl, h2, r2⟩ := trodAll_cons r1
  obtain ⟨v3, vs3, d3, ds3, p3, q3, rfl, rfl, rfl, h3, r3⟩ := trodAll_cons r2
  obtain ⟨rfl, rfl, rfl⟩ := trodAll_nil r3
  obtain rfl : args = #[v0, v1, v2, v3] := by cases args; simp_all
  obtain ⟨rfl, rfl⟩ := trodVars_none hV
  have k0 := h0
  have lt0 : ∀ x ∈ p0, x.block < W.heap.size := by obtain ⟨m, hm⟩ := k0; exact DataW.trod_lt m _ _ _ hm
  have li0 := light_of hsz (j := 0) (t := 50) rfl rfl
  obtain ⟨fu0, hf0⟩ := h0
  obtain ⟨v0_, hK0, hok0⟩ := (opens_array (sz := 5) [fld 26 0, fld 26 5, fld 26 10] Try.underlying50 (by kernel_rfl) (by kernel_rfl) rfl (parts_cons (opens_struct Try.underlying26 (by kernel_rfl) (parts_cons (opens_struct Try.underlying23 (by kernel_rfl) (parts_cons (opens_int Try.underlying3 (by kernel_rfl)) rfl (parts_cons (opens_int Try.underlying3 (by kernel_rfl)) rfl (parts_cons (opens_int Try.underlying3 (by kernel_rfl)) rfl (parts_one (opens_int Try.underlying3 (by kernel_rfl)) rfl (by kernel_rfl))))) (fun v => v) (fun v => v) (fun _ => rfl)) rfl (parts_one (opens_slice (B := 8) Try.underlying24 (by kernel_rfl) (by kernel_rfl) (opens_int Try.underlying3 (by kernel_rfl))) rfl (by kernel_rfl))) (fun v => v) (fun v => v) (fun _ => rfl)) rfl (parts_cons (opens_struct Try.underlying26 (by kernel_rfl) (parts_cons (opens_struct Try.underlying23 (by kernel_rfl) (parts_cons (opens_int Try.underlying3 (by kernel_rfl)) rfl (parts_cons (opens_int Try.underlying3 (by kernel_rfl)) rfl (parts_cons (opens_int Try.underlying3 (by kernel_rfl)) rfl (parts_one (opens_int Try.underlying3 (by kernel_rfl)) rfl (by kernel_rfl))))) (fun v => v) (fun v => v) (fun _ => rfl)) rfl (parts_one (opens_slice (B := 8) Try.underlying24 (by kernel_rfl) (by kernel_rfl) (opens_int Try.underlying3 (by kernel_rfl))) rfl (by kernel_rfl))) (fun v => v) (fun v => v) (fun _ => rfl)) rfl (parts_one (opens_struct Try.underlying26 (by kernel_rfl) (parts_cons (opens_struct Try.underlying23 (by kernel_rfl) (parts_cons (opens_int Try.underlying3 (by kernel_rfl)) rfl (parts_cons (opens_int Try.underlying3 (by kernel_rfl)) rfl (parts_cons (opens_int Try.underlying3 (by kernel_rfl)) rfl (parts_one (opens_int Try.underlying3 (by kernel_rfl)) rfl (by kernel_rfl))))) (fun v => v) (fun v => v) (fun _ => rfl)) rfl (parts_one (opens_slice (B := 8) Try.underlying24 (by kernel_rfl) (by kernel_rfl) (opens_int Try.underlying3 (by kernel_rfl))) rfl (by kernel_rfl))) (fun v => v) (fun v => v) (fun _ => rfl)) rfl (by kernel_rfl)))) (fun v => v) (fun v => v) (fun _ => rfl)).opens hf0 li0
  obtain ⟨cs0, rfl, _⟩ := okWide_array Try.underlying50 (hval 0 50 v0 rfl rfl)
  obtain ⟨_, _, hcs0, ⟨_, _, rfl, ⟨_, _, rfl, rfl, ⟨_, _, rfl, rfl, ⟨_, _, rfl, rfl, rfl⟩⟩⟩, ⟨A0_4, c0_4, rfl, hl0_4, hC0_4⟩⟩, ⟨_, _, rfl, ⟨_, _, rfl, ⟨_, _, rfl, rfl, ⟨_, _, rfl, rfl, ⟨_, _, rfl, rfl, rfl⟩⟩⟩, ⟨A0_9, c0_9, rfl, hl0_9, hC0_9⟩⟩, ⟨_, _, rfl, ⟨_, _, rfl, rfl, ⟨_, _, rfl, rfl, ⟨_, _, rfl, rfl, rfl⟩⟩⟩, ⟨A0_14, c0_14, rfl, hl0_14, hC0_14⟩⟩⟩⟩ := hK0
  obtain rfl : cs0 = #[.int .i64 v0_.1.1.1, .int .i64 v0_.1.1.2.1, .int .i64 v0_.1.1.2.2.1, .int .i64 v0_.1.1.2.2.2, .slice A0_4 v0_.1.2.length c0_4, .int .i64 v0_.2.1.1.1, .int .i64 v0_.2.1.1.2.1, .int .i64 v0_.2.1.1.2.2.1, .int .i64 v0_.2.1.1.2.2.2, .slice A0_9 v0_.2.1.2.length c0_9, .int .i64 v0_.2.2.1.1, .int .i64 v0_.2.2.1.2.1, .int .i64 v0_.2.2.1.2.2.1, .int .i64 v0_.2.2.1.2.2.2, .slice A0_14 v0_.2.2.2.length c0_14] := by cases cs0; simpa [Value.cells] using hcs0
  clear hcs0
  obtain ⟨⟨⟨w0_0, w0_1, w0_2, w0_3⟩, ⟨y0_4, w0_4⟩⟩, ⟨⟨w0_5, w0_6, w0_7, w0_8⟩, ⟨y0_9, w0_9⟩⟩, ⟨⟨w0_10, w0_11, w0_12, w0_13⟩, ⟨y0_14, w0_14⟩⟩⟩ := hok0
  have k1 := h1
  have lt1 : ∀ x ∈ p1, x.block < W.heap.size := by obtain ⟨m, hm⟩ := k1; exact DataW.trod_lt m _ _ _ hm
  have li1 := light_of hsz (j := 1) (t := 51) rfl rfl
  obtain ⟨fu1, hf1⟩ := h1
  obtain ⟨v1_, hK1, hok1⟩ := (opens_int Try.underlying51 (by kernel_rfl)).opens hf1 li1
  obtain ⟨a1, rfl⟩ := okWide_int Try.underlying51 (hval 1 51 v1 rfl rfl)
  obtain rfl : a1 = v1_ := by have hcs : [Value.int .i64 a1] = [Value.int .i64 v1_] := hK1; simpa using hcs
  have w1 := hok1
  have k2 := h2
  have lt2 : ∀ x ∈ p2, x.block < W.heap.size := by obtain ⟨m, hm⟩ := k2; exact DataW.trod_lt m _ _ _ hm
  have li2 := light_of hsz (j := 2) (t := 5) rfl rfl
  obtain ⟨fu2, hf2⟩ := h2
  obtain ⟨v2_, hK2, hok2⟩ := (opens_int Try.underlying5 (by kernel_rfl)).opens hf2 li2
  obtain ⟨a2, rfl⟩ := okWide_int Try.underlying5 (hval 2 5 v2 rfl rfl)
  obtain rfl : a2 = v2_ := by have hcs : [Value.int .u8 a2] = [Value.int .u8 v2_] := hK2; simpa using hcs
  have w2 := hok2
  have k3 := h3
  have lt3 : ∀ x ∈ p3, x.block < W.heap.size := by obtain ⟨m, hm⟩ := k3; exact DataW.trod_lt m _ _ _ hm
  have li3 := light_of hsz (j := 3) (t := 28) rfl rfl
  obtain ⟨fu3, hf3⟩ := h3
  obtain ⟨v3_, hK3, hok3⟩ := (opens_int Try.underlying28 (by kernel_rfl)).opens hf3 li3
  obtain ⟨a3, rfl⟩ := okWide_int Try.underlying28 (hval 3 28 v3 rfl rfl)
  obtain rfl : a3 = v3_ := by have hcs : [Value.int .i64 a3] = [Value.int .i64 v3_] := hK3; simpa using hcs
  have w3 := hok3
  clear hA0 hval0 hsz0 hsz
  have hp := Pure.TopTransforms (v0_.1.1.1) (v0_.1.1.2.1) (v0_.1.1.2.2.1) (v0_.1.1.2.2.2) (v0_.1.2) (v0_.2.1.1.1) (v0_.2.1.1.2.1) (v0_.2.1.1.2.2.1) (v0_.2.1.1.2.2.2) (v0_.2.1.2) (v0_.2.2.1.1) (v0_.2.2.1.2.1) (v0_.2.2.1.2.2.1) (v0_.2.2.1.2.2.2) (v0_.2.2.2) a1 a2 a3 w0_0 w0_1 w0_2 w0_3 y0_4 w0_4 w0_5 w0_6 w0_7 w0_8 y0_9 w0_9 w0_10 w0_11 w0_12 w0_13 y0_14 w0_14 w1 w2 w3
  refine (wavelettop_TopTransforms.calls (v0_.1.1.1) (v0_.1.1.2.1) (v0_.1.1.2.2.1) (v0_.1.1.2.2.2) _ _ (v0_.1.2) (v0_.2.1.1.1) (v0_.2.1.1.2.1) (v0_.2.1.1.2.2.1) (v0_.2.1.1.2.2.2) _ _ (v0_.2.1.2) (v0_.2.2.1.1) (v0_.2.2.1.2.1) (v0_.2.2.1.2.2.1) (v0_.2.2.1.2.2.2) _ _ (v0_.2.2.2) a1 a2 a3 true rfl W hC0_4 hl0_4 hC0_9 hl0_9 hC0_14 hl0_14 hp).mono fun e W' he_ => ?_
  obtain ⟨he, bel⟩ := he_
  subst he
  exact ⟨_, rfl, _, _, _, [], _, [], hW', trodAll_mk1 (shut_bool Try.underlying4 _), (trodAll_cons_mk (Below.trod laidOut (by kernel_rfl) (of_decide_eq_true (by kernel_rfl)) k0 bel lt0) (trodAll_cons_mk (Below.trod laidOut (by kernel_rfl) (of_decide_eq_true (by kernel_rfl)) k1 bel lt1) (trodAll_cons_mk (Below.trod laidOut (by kernel_rfl) (of_decide_eq_true (by kernel_rfl)) k2 bel lt2) (trodAll_cons_mk (Below.trod laidOut (by kernel_rfl) (of_decide_eq_true (by kernel_rfl)) k3 bel lt3) trodAll_mk0)))), rfl, bel.frame _, fun h => by cases h⟩
theorem over : Rows.topTransformsRow.holds Try.pinned (OpenSpec.ofChange Rows.topTransformsSpec) :=
  OpenClaim.holds_of_wide 5 Try.f5 rfl rfl rfl rfl rfl rfl rfl ⟨rfl, rfl, rfl, rfl, rfl⟩ rfl rfl rfl rfl rfl (by kernel_rfl) Try.func5 (by kernel_rfl)
    (of_decide_eq_true (by kernel_rfl)) (by unfold Func.isWrapper; first | (rw [if_pos (by decide +kernel)]; kernel_rfl) | (rw [if_neg (by decide +kernel)]; exact ⟨rfl, rfl⟩))
    (fun os started H enc _ => lifted os started H enc)
theorem proved : Rows.TopTransformsSaid := over
end Go.Proofs.Ytcnpekpgghppnaa.topTransforms
namespace Go.Proofs.Ytcnpekpgghppnaa
/-- The row, under a short name, for the claim. -/
theorem topTransforms_holds : Rows.TopTransformsSaid := topTransforms.proved
#print axioms topTransforms_holds
end Go.Proofs.Ytcnpekpgghppnaa
