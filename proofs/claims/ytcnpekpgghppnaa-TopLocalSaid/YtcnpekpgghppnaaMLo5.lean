/- Texts of this session (words and printed walks, merged by wip/tools/merge.py) for the statement of the claim. -/
import Derived.Test.YtcnpekpgghppnaaMLo1
import Derived.Test.YtcnpekpgghppnaaMLo4
import Derived.Test.YtcnpekpgghppnaaMLo2
namespace Go.Proofs.Ytcnpekpgghppnaa.Q
open Go.RowKit Go.Proofs.YtcnpekpgghppnaaW.PrintWords Go.Proofs.YtcnpekpgghppnaaW.PrintLast Go.Proofs.YtcnpekpgghppnaaW.PrintMore
set_option linter.unusedVariables false
set_option linter.unusedSimpArgs false
theorem eqA23_same (d : Nat) (w : World) (x0 x1 x2 x3 : Int) :
  (Op.equalIn (d + 2) 23 (.agg #[.int .i64 x0, .int .i64 x1, .int .i64 x2, .int .i64 x3]) (.agg #[.int .i64 x0, .int .i64 x1, .int .i64 x2, .int .i64 x3])).run Try.prog w = .ok true w := by
 rw [eqA23]
 simp
set_option maxHeartbeats 8000000 in
theorem idx59_0 (w : World) (a0 b0 c0 d0 e0 a1 b1 c1 d1 e1 a2 b2 c2 d2 e2 a3 b3 c3 d3 e3 : Value) : (Instr.index 59 (.agg #[a0,b0,c0,d0,e0,a1,b1,c1,d1,e1,a2,b2,c2,d2,e2,a3,b3,c3,d3,e3]) (.int .i64 0)).run Try.prog w = .ok (.agg #[a0,b0,c0,d0,e0]) w := by
 have hu := Try.underlying59
 unfold Instr.index
 go_simp
set_option maxHeartbeats 8000000 in
theorem idx59_1 (w : World) (a0 b0 c0 d0 e0 a1 b1 c1 d1 e1 a2 b2 c2 d2 e2 a3 b3 c3 d3 e3 : Value) : (Instr.index 59 (.agg #[a0,b0,c0,d0,e0,a1,b1,c1,d1,e1,a2,b2,c2,d2,e2,a3,b3,c3,d3,e3]) (.int .i64 1)).run Try.prog w = .ok (.agg #[a1,b1,c1,d1,e1]) w := by
 have hu := Try.underlying59
 unfold Instr.index
 go_simp
set_option maxHeartbeats 8000000 in
theorem idx59_2 (w : World) (a0 b0 c0 d0 e0 a1 b1 c1 d1 e1 a2 b2 c2 d2 e2 a3 b3 c3 d3 e3 : Value) : (Instr.index 59 (.agg #[a0,b0,c0,d0,e0,a1,b1,c1,d1,e1,a2,b2,c2,d2,e2,a3,b3,c3,d3,e3]) (.int .i64 2)).run Try.prog w = .ok (.agg #[a2,b2,c2,d2,e2]) w := by
 have hu := Try.underlying59
 unfold Instr.index
 go_simp
set_option maxHeartbeats 8000000 in
theorem idx59_3 (w : World) (a0 b0 c0 d0 e0 a1 b1 c1 d1 e1 a2 b2 c2 d2 e2 a3 b3 c3 d3 e3 : Value) : (Instr.index 59 (.agg #[a0,b0,c0,d0,e0,a1,b1,c1,d1,e1,a2,b2,c2,d2,e2,a3,b3,c3,d3,e3]) (.int .i64 3)).run Try.prog w = .ok (.agg #[a3,b3,c3,d3,e3]) w := by
 have hu := Try.underlying59
 unfold Instr.index
 go_simp
theorem idx59_0' (w : World) (a0 b0 c0 d0 e0 a1 b1 c1 d1 e1 a2 b2 c2 d2 e2 a3 b3 c3 d3 e3 : Value) : (Instr.index 59 (.agg #[a0,b0,c0,d0,e0,a1,b1,c1,d1,e1,a2,b2,c2,d2,e2,a3,b3,c3,d3,e3]) (.int .i64 ((0 : Nat) : Int))).run Try.prog w = .ok (.agg #[a0,b0,c0,d0,e0]) w := idx59_0 ..
attribute [local go_sem high] eqA23_same idx59_0 idx59_1 idx59_2 idx59_3 idx59_0'
/-- What the columns of two subbands come to in a half, from the x-th on. -/
def mcolsF (kk : Int) (k : Nat) (x0 x1 y0 : Int) (D D2 : List Int) : Nat → Int → List Int → Option (List Int)
 | 0, _, _ => none
 | f + 1, x, E => if x < x1 then (colF (x1 - x0) D k (x - x0) []).bind fun lo => (colF (x1 - x0) D2 k (x - x0) []).bind fun hi => if lo.length + hi.length ≤ 4096 ∧ cntE y0 ((lo.length + hi.length : Nat) : Int) = (lo.length : Int) ∧ lift_bounded.f k lo 1125899906842624 = some true ∧ lift_bounded.f k hi 1125899906842624 = some true then (invF kk k y0 lo hi).bind fun z => (setF x x0 (wrap64 (x1 - x0)) z k 0 E).bind fun E1 => mcolsF kk k x0 x1 y0 D D2 f (x + 1) E1 else none else some E
/-- What the rows of two halves come to, from the y-th on. -/
def mrowsF (kk : Int) (k : Nat) (w0 w1 x0 y0 y1 : Int) (H0 H1 : List Int) : Nat → Int → List Int → Option (List Int)
 | 0, _, _ => none
 | f + 1, y, P => if y < y1 then (if (List.take w0.toNat (List.drop ((y - y0) * w0).toNat H0)).length + (List.take w1.toNat (List.drop ((y - y0) * w1).toNat H1)).length ≤ 4096 ∧ cntE x0 (((List.take w0.toNat (List.drop ((y - y0) * w0).toNat H0)).length + (List.take w1.toNat (List.drop ((y - y0) * w1).toNat H1)).length : Nat) : Int) = ((List.take w0.toNat (List.drop ((y - y0) * w0).toNat H0)).length : Int) ∧ lift_bounded.f k (List.take w0.toNat (List.drop ((y - y0) * w0).toNat H0)) 1125899906842624 = some true ∧ lift_bounded.f k (List.take w1.toNat (List.drop ((y - y0) * w1).toNat H1)) 1125899906842624 = some true then (invF kk k x0 (List.take w0.toNat (List.drop ((y - y0) * w0).toNat H0)) (List.take w1.toNat (List.drop ((y - y0) * w1).toNat H1))).bind fun z => if P.length + z.length ≤ 2097152 then mrowsF kk k w0 w1 x0 y0 y1 H0 H1 f (y + 1) (P ++ z) else none else none) else some P
set_option maxHeartbeats 8000000 in
set_option maxRecDepth 100000 in
theorem dwt_Merge.good (k ks kn ke : Nat) (kk x0 y0 x1 y1 ar : Int) (A0 : Option Addr) (d0 : Nat) (A1 : Option Addr) (d1 : Nat) (A2 : Option Addr) (d2 : Nat) (A3 : Option Addr) (d3 : Nat) (D0 D1 D2 D3 Z0 Z1 H0 H1 G : List Int) (a0 a1 c0 c1 e0 e1 f0 f1 : Int) (w : World)
  (hr0 : Kd.C (Kd.int .i64) w A0 D0.length D0) (hc0 : D0.length ≤ d0) (hv0 : PV a0 e0 c0 f0 D0) (hex0 : dwt_exceeds.f ke D0 281474976710656 = some false) (hr1 : Kd.C (Kd.int .i64) w A1 D1.length D1) (hc1 : D1.length ≤ d1) (hv1 : PV a1 e0 c1 f0 D1) (hex1 : dwt_exceeds.f ke D1 281474976710656 = some false) (hr2 : Kd.C (Kd.int .i64) w A2 D2.length D2) (hc2 : D2.length ≤ d2) (hv2 : PV a0 e1 c0 f1 D2) (hex2 : dwt_exceeds.f ke D2 281474976710656 = some false) (hr3 : Kd.C (Kd.int .i64) w A3 D3.length D3) (hc3 : D3.length ≤ d3) (hv3 : PV a1 e1 c1 f1 D3) (hex3 : dwt_exceeds.f ke D3 281474976710656 = some false) (hx01 : 0 ≤ x0 ∧ x0 ≤ x1 ∧ x1 ≤ 4096) (hy01 : 0 ≤ y0 ∧ y0 ≤ y1 ∧ y1 ≤ 4096) (hrv : rect_Valid.f x0 y0 x1 y1 = some true) (har : rect_Area.f x0 y0 x1 y1 = some ar) (hal : ar ≤ 1048576) (hkk : 1 ≤ kk ∧ kk ≤ 3) (hkn : dwt_known.f kn kk = some true) (hbc : bandsC x0 y0 x1 y1 4 = #[.int .i64 a0, .int .i64 e0, .int .i64 c0, .int .i64 f0, .int .i64 a1, .int .i64 e0, .int .i64 c1, .int .i64 f0, .int .i64 a0, .int .i64 e1, .int .i64 c0, .int .i64 f1, .int .i64 a1, .int .i64 e1, .int .i64 c1, .int .i64 f1]) (he0 : dwt_empty.f a0 y0 c0 y1 = some (a0, y0, c0, y1, Z0)) (hm0 : mcolsF kk ks a0 c0 y0 D0 D2 k a0 Z0 = some H0) (hw0 : PV a0 y0 c0 y1 H0) (he1 : dwt_empty.f a1 y0 c1 y1 = some (a1, y0, c1, y1, Z1)) (hm1 : mcolsF kk ks a1 c1 y0 D1 D3 k a1 Z1 = some H1) (hw1 : PV a1 y0 c1 y1 H1) (hrow : mrowsF kk ks (c0 - a0) (c1 - a1) x0 y0 y1 H0 H1 k y0 [] = some G) :
  Calls Try.prog 41 #[.agg #[.int .i64 a0, .int .i64 e0, .int .i64 c0, .int .i64 f0, .slice A0 D0.length d0, .int .i64 a1, .int .i64 e0, .int .i64 c1, .int .i64 f0, .slice A1 D1.length d1, .int .i64 a0, .int .i64 e1, .int .i64 c0, .int .i64 f1, .slice A2 D2.length d2, .int .i64 a1, .int .i64 e1, .int .i64 c1, .int .i64 f1, .slice A3 D3.length d3], .agg #[.int .i64 x0, .int .i64 y0, .int .i64 x1, .int .i64 y1], .int .i64 kk] w fun e w' => ∃ v : Value, e = .returned (.tuple #[.agg #[.int .i64 x0, .int .i64 y0, .int .i64 x1, .int .i64 y1, v], .int .i64 0]) ∧ Hold w.heap.size w w' [] [(v, G)] := by
 have HR0 := Aside0.mk hr0
 have HC0 := Aside0.mk hc0
 have HV0 := Aside0.mk hv0
 have HEX0 := Aside0.mk hex0
 have HR1 := Aside0.mk hr1
 have HC1 := Aside0.mk hc1
 have HV1 := Aside0.mk hv1
 have HEX1 := Aside0.mk hex1
 have HR2 := Aside0.mk hr2
 have HC2 := Aside0.mk hc2
 have HV2 := Aside0.mk hv2
 have HEX2 := Aside0.mk hex2
 have HR3 := Aside0.mk hr3
 have HC3 := Aside0.mk hc3
 have HV3 := Aside0.mk hv3
 have HEX3 := Aside0.mk hex3
 have HX01 := Aside0.mk hx01
 have HY01 := Aside0.mk hy01
 have HRV := Aside0.mk hrv
 have HAR := Aside0.mk har
 have HAL := Aside0.mk hal
 have HKK := Aside0.mk hkk
 have HKN := Aside0.mk hkn
 have HBC := Aside0.mk hbc
 have HE0 := Aside0.mk he0
 have HM0 := Aside0.mk hm0
 have HW0 := Aside0.mk hw0
 have HE1 := Aside0.mk he1
 have HM1 := Aside0.mk hm1
 have HW1 := Aside0.mk hw1
 have HROW := Aside0.mk hrow
 have HVV0 := Aside0.mk hv0.valid
 have HVV1 := Aside0.mk hv1.valid
 have HVV2 := Aside0.mk hv2.valid
 have HVV3 := Aside0.mk hv3.valid
 have hb_ar : decide (1048576 < ar) = false := decide_eq_false (by omega)
 clear hr0 hc0 hv0 hex0 hr1 hc1 hv1 hex1 hr2 hc2 hv2 hex2 hr3 hc3 hv3 hex3 hx01 hy01 hrv har hal hkk hkn hbc he0 hm0 hw0 he1 hm1 hw1 hrow
 have K00 := Aside0.mk (Hold.nil w)
 go_enter Try.func41, Try.ntmps41
 go_wp2_with (first
  | ((with_reducible refine gate_dst (N := 3) rfl ?_); refine bT (N := 3) (#[.int .i64 a0, .int .i64 e0, .int .i64 c0, .int .i64 f0, .slice A0 D0.length d0, .int .i64 a1, .int .i64 e0, .int .i64 c1, .int .i64 f0, .slice A1 D1.length d1, .int .i64 a0, .int .i64 e1, .int .i64 c0, .int .i64 f1, .slice A2 D2.length d2, .int .i64 a1, .int .i64 e1, .int .i64 c1, .int .i64 f1, .slice A3 D3.length d3]) 59 ?_; intro g3 hg W3 hbox hb; have K2 := Aside0.mk (K00.out.box (Nat.le_refl _) hg hbox hb trivial); clear hg hbox hb K00)
  | ((with_reducible refine gate_dst (N := 4) rfl ?_); refine bT (N := 4) (#[.int .i64 x0, .int .i64 y0, .int .i64 x1, .int .i64 y1]) 23 ?_; intro g4 hg W4 hbox hb; have K3 := Aside0.mk (K2.out.box (below_size K2.out.below) hg hbox hb trivial); clear hg hbox hb K2)
  | ((with_reducible refine gate_dst (N := 6) rfl ?_); refine bT (N := 6) (#[.int .i64 0, .int .i64 0, .int .i64 0, .int .i64 0, .slice none 0 0]) 26 ?_; intro g6 hg W6 hbox hb; have K := Aside0.mk (K3.out.box (below_size K3.out.below) hg hbox hb trivial); clear hg hbox hb K3)
  | ((with_reducible refine gate_dst (N := 31) rfl ?_); refine load_ev rfl 23 (.tmp 4) rfl rfl (K.out.get 1 rfl) Try.underlying23 rfl ?_)
  | (go_at_call 31; (with_reducible refine (rect_Valid.calls x0 y0 x1 y1 true _ HRV.out).mono ?_); rintro _ w31 ⟨rfl, b⟩; replace K := Aside0.mk (K.out.call (below_size K.out.below) b); clear b)
  | ((with_reducible refine gate_dst (N := 35) rfl ?_); (try (refine gate_guard (by rfl) ?_; dsimp only)); refine load_ev rfl 23 (.tmp 4) rfl rfl (K.out.get 1 rfl) Try.underlying23 rfl ?_)
  | ((try (refine gate_guard (by rfl) ?_; dsimp only)); go_at_call 36; (with_reducible refine (rect_Area.calls x0 y0 x1 y1 ar _ HAR.out).mono ?_); rintro _ w36 ⟨rfl, b⟩; replace K := Aside0.mk (K.out.call (below_size K.out.below) b); clear b)
  | (go_at_call 56; (with_reducible refine (dwt_known.calls kn kk true _ HKN.out).mono ?_); rintro _ w56 ⟨rfl, b⟩; replace K := Aside0.mk (K.out.call (below_size K.out.below) b.below); clear b)
  | ((with_reducible refine gate_dst (N := 44) rfl ?_); refine load_ev rfl 23 (.tmp 4) rfl rfl (K.out.get 1 rfl) Try.underlying23 rfl ?_)
  | (go_at_call 35; (with_reducible refine (dwt_Bands.good x0 y0 x1 y1 _ HRV.out).mono ?_); rintro _ w35 ⟨rfl, b⟩; rw [HBC.out]; replace K := Aside0.mk (K.out.call (below_size K.out.below) b); clear b)
  | ((with_reducible refine gate_dst (N := 8) rfl ?_); refine bT (N := 8) (#[.int .i64 0, .int .i64 0, .int .i64 0, .int .i64 0, .int .i64 0, .int .i64 0, .int .i64 0, .int .i64 0, .int .i64 0, .int .i64 0, .int .i64 0, .int .i64 0, .int .i64 0, .int .i64 0, .int .i64 0, .int .i64 0]) 62 ?_; intro g8 hg W8 hbox hb; replace K := Aside0.mk (K.out.box (below_size K.out.below) hg hbox hb trivial); clear hg hbox hb)
  | ((with_reducible refine gate_store (t := 62) (p := 8) (v := .tmp 45) rfl ?_); refine store_ev rfl rfl 62 (.tmp 8) (.tmp 45) rfl rfl rfl (K.out.get 0 rfl) rfl rfl (by first | (kernel_rfl) | (simp [Value.oneCell'])) ?_; intro W8s hs; replace K := Aside0.mk (K.out.stored 0 rfl hs); clear hs)
  | ((with_reducible refine gate_dst (N := 46) rfl ?_); refine load_all_ev rfl 59 (.tmp 3) rfl rfl (K.out.get 3 rfl) Try.underlying59 rfl rfl ?_))
 clear HRV HBC HKN HAR HAL hb_ar
 go_loopg [47] 4 (fun kq v47 w' => ∃ n : Nat, v47 = .int .i64 (n : Int) ∧ n + kq = 4 ∧ Aside0 (Hold w.heap.size w w' [(g8, 62, #[.int .i64 a0, .int .i64 e0, .int .i64 c0, .int .i64 f0, .int .i64 a1, .int .i64 e0, .int .i64 c1, .int .i64 f0, .int .i64 a0, .int .i64 e1, .int .i64 c0, .int .i64 f1, .int .i64 a1, .int .i64 e1, .int .i64 c1, .int .i64 f1]), (g6, 26, #[.int .i64 0, .int .i64 0, .int .i64 0, .int .i64 0, .slice none 0 0]), (g4, 23, #[.int .i64 x0, .int .i64 y0, .int .i64 x1, .int .i64 y1]), (g3, 59, #[.int .i64 a0, .int .i64 e0, .int .i64 c0, .int .i64 f0, .slice A0 D0.length d0, .int .i64 a1, .int .i64 e0, .int .i64 c1, .int .i64 f0, .slice A1 D1.length d1, .int .i64 a0, .int .i64 e1, .int .i64 c0, .int .i64 f1, .slice A2 D2.length d2, .int .i64 a1, .int .i64 e1, .int .i64 c1, .int .i64 f1, .slice A3 D3.length d3])] []))
 case atStart => exact ⟨0, rfl, rfl, K⟩
 case round =>
 clear K
 obtain ⟨n, rfl, hn, K⟩ := hrel
 have hn4 : n = 0 ∨ n = 1 ∨ n = 2 ∨ n = 3 ∨ n = 4 := by omega
 rcases hn4 with rfl | rfl | rfl | rfl | rfl
 ·have hb0 : decide (((0 : Nat) : Int) < 4) = true := rfl
  go_upto_region 9 with (first
   | ((with_reducible refine gate_dst (N := 10) rfl ?_); refine bT (N := 10) (#[.int .i64 0, .int .i64 0, .int .i64 0, .int .i64 0, .slice none 0 0]) 26 ?_; intro g10 hg W10 hbox hb; replace K := Aside0.mk (K.out.box (below_size K.out.below) hg hbox hb trivial); clear hg hbox hb)
   | ((with_reducible refine gate_store (t := 26) (p := 10) (v := .tmp 50) rfl ?_); refine store_ev rfl rfl 26 (.tmp 10) (.tmp 50) rfl rfl rfl (K.out.get 0 rfl) rfl rfl (by first | (kernel_rfl) | (simp [Value.oneCell'])) ?_; intro w10s hs; replace K := Aside0.mk (K.out.stored 0 rfl hs); clear hs))
  replace K := Aside0.mk (K.out.drew)
  refine start_ (n := 11) (S := fun w' => w'.heap[g10]? = some (.cells #[.int .i64 a0, .int .i64 e0, .int .i64 c0, .int .i64 f0, .slice A0 D0.length d0] 26 (0, 0)) ∧ w'.heap[g8]? = some (.cells #[.int .i64 a0, .int .i64 e0, .int .i64 c0, .int .i64 f0, .int .i64 a1, .int .i64 e0, .int .i64 c1, .int .i64 f0, .int .i64 a0, .int .i64 e1, .int .i64 c0, .int .i64 f1, .int .i64 a1, .int .i64 e1, .int .i64 c1, .int .i64 f1] 62 (0, 0))) (ds := []) #[false, false, false, false, false, false, false, false, false, false, false] (by kernel_rfl) rfl rfl ⟨K.out.get 0 rfl, K.out.get 1 rfl⟩ (fun hHeld0 => ?_)
  generalize hw2 : w10s.drew = w2 at *
  clear hw2
  have hHeld := Aside0.mk hHeld0
  clear hHeld0
  refine tL (i := 0) (N := some 51) (v := .agg #[.int .i64 a0, .int .i64 e0, .int .i64 c0, .int .i64 f0, .slice A0 D0.length d0]) rfl (load_yields (by rfl) 26 (.tmp 10) rfl rfl (fun _ h => h.1) Try.underlying26 rfl) hHeld.out ?_
  refine one_ (i := 1) (N := some 52) #[true, true, false, false, false, false, false, false, false, false, false] rfl rfl (by kernel_rfl) (by decide) (fun KC hK => ?_)
  refine goes_ Try.func25 (by kernel_rfl) rfl #[.agg #[.int .i64 a0, .int .i64 e0, .int .i64 c0, .int .i64 f0, .slice A0 D0.length d0]] (by rfl) rfl rfl (by simp only [List.map_toArray, List.map_cons, List.map_nil]; rfl) ?_
  refine (plane_Valid.calls a0 e0 c0 f0 A0 d0 D0 true _ (Kd.C_below HR0.out K.out.below) HC0.out HVV0.out).mono ?_
  rintro _ w3 ⟨rfl, b⟩
  refine ⟨_, rfl, ?_⟩
  replace K := Aside0.mk (K.out.call (below_size K.out.below) b)
  clear b hHeld
  refine hK.out _ _ ⟨K.out.get 0 rfl, K.out.get 1 rfl⟩ (fun hHeld0 => ?_)
  have hHeld := Aside0.mk hHeld0
  clear hHeld0
  clear hK KC
  refine nT ?_
  refine pT (i := 2) (N := some 53) ?_
  refine pT (i := 3) (N := some 54) ?_
  refine pT (i := 4) (N := some 55) ?_
  refine take_ (i := 5) (N := some 56) (v := .agg #[.int .i64 a0, .int .i64 e0, .int .i64 c0, .int .i64 f0]) (a' := ?_) #[true, true, true, true, true, true, false, false, false, false, false] rfl rfl (by kernel_rfl) (fun _ _ _ h => h) (load_mid_yields (i := 0) (cs := #[.int .i64 a0, .int .i64 e0, .int .i64 c0, .int .i64 f0]) (by rfl) 23 (.tmp 55) rfl rfl (fun _ h => h.1) (fun j v hj => by rcases j with _ | _ | _ | _ | j <;> first | exact hj | (simp at hj)) Try.underlying23 rfl rfl) hHeld.out ?_ ?_
  rotate_left
  ·simp only [Act.put, List.setIfInBounds_toArray, List.set_cons_zero, List.set_cons_succ, i64_w, i32_w]
   rfl
  refine pT (i := 6) (N := some 57) ?_
  refine pT (i := 7) (N := some 58) ?_
  refine take_ (i := 8) (N := some 59) (v := .agg #[.int .i64 a0, .int .i64 e0, .int .i64 c0, .int .i64 f0]) (a' := ?_) #[true, true, true, true, true, true, true, true, true, false, false] rfl rfl (by kernel_rfl) (fun _ _ _ h => h) (load_mid_yields (i := 0) (cs := #[.int .i64 a0, .int .i64 e0, .int .i64 c0, .int .i64 f0]) (by rfl) 23 (.tmp 58) rfl rfl (fun _ h => h.2) (fun j v hj => by rcases j with _ | _ | _ | _ | j <;> first | exact hj | (simp at hj)) Try.underlying23 rfl rfl) hHeld.out ?_ ?_
  rotate_left
  ·simp only [Act.put, List.setIfInBounds_toArray, List.set_cons_zero, List.set_cons_succ, i64_w, i32_w]
   rfl
  refine pT (i := 9) (N := some 60) ?_
  refine pT (i := 10) (N := some 61) ?_
  refine done_ (by kernel_rfl) ?_
  clear hHeld
  go_wp2
  go_roundg (3)
  case measure => omega
  case rel => exact ⟨1, rfl, by omega, ⟨K.out.tl⟩⟩
 ·have hb0 : decide (((1 : Nat) : Int) < 4) = true := rfl
  go_upto_region 9 with (first
   | ((with_reducible refine gate_dst (N := 10) rfl ?_); refine bT (N := 10) (#[.int .i64 0, .int .i64 0, .int .i64 0, .int .i64 0, .slice none 0 0]) 26 ?_; intro g10 hg W10 hbox hb; replace K := Aside0.mk (K.out.box (below_size K.out.below) hg hbox hb trivial); clear hg hbox hb)
   | ((with_reducible refine gate_store (t := 26) (p := 10) (v := .tmp 50) rfl ?_); refine store_ev rfl rfl 26 (.tmp 10) (.tmp 50) rfl rfl rfl (K.out.get 0 rfl) rfl rfl (by first | (kernel_rfl) | (simp [Value.oneCell'])) ?_; intro w10s hs; replace K := Aside0.mk (K.out.stored 0 rfl hs); clear hs))
  replace K := Aside0.mk (K.out.drew)
  refine start_ (n := 11) (S := fun w' => w'.heap[g10]? = some (.cells #[.int .i64 a1, .int .i64 e0, .int .i64 c1, .int .i64 f0, .slice A1 D1.length d1] 26 (0, 0)) ∧ w'.heap[g8]? = some (.cells #[.int .i64 a0, .int .i64 e0, .int .i64 c0, .int .i64 f0, .int .i64 a1, .int .i64 e0, .int .i64 c1, .int .i64 f0, .int .i64 a0, .int .i64 e1, .int .i64 c0, .int .i64 f1, .int .i64 a1, .int .i64 e1, .int .i64 c1, .int .i64 f1] 62 (0, 0))) (ds := []) #[false, false, false, false, false, false, false, false, false, false, false] (by kernel_rfl) rfl rfl ⟨K.out.get 0 rfl, K.out.get 1 rfl⟩ (fun hHeld0 => ?_)
  generalize hw2 : w10s.drew = w2 at *
  clear hw2
  have hHeld := Aside0.mk hHeld0
  clear hHeld0
  refine tL (i := 0) (N := some 51) (v := .agg #[.int .i64 a1, .int .i64 e0, .int .i64 c1, .int .i64 f0, .slice A1 D1.length d1]) rfl (load_yields (by rfl) 26 (.tmp 10) rfl rfl (fun _ h => h.1) Try.underlying26 rfl) hHeld.out ?_
  refine one_ (i := 1) (N := some 52) #[true, true, false, false, false, false, false, false, false, false, false] rfl rfl (by kernel_rfl) (by decide) (fun KC hK => ?_)
  refine goes_ Try.func25 (by kernel_rfl) rfl #[.agg #[.int .i64 a1, .int .i64 e0, .int .i64 c1, .int .i64 f0, .slice A1 D1.length d1]] (by rfl) rfl rfl (by simp only [List.map_toArray, List.map_cons, List.map_nil]; rfl) ?_
  refine (plane_Valid.calls a1 e0 c1 f0 A1 d1 D1 true _ (Kd.C_below HR1.out K.out.below) HC1.out HVV1.out).mono ?_
  rintro _ w3 ⟨rfl, b⟩
  refine ⟨_, rfl, ?_⟩
  replace K := Aside0.mk (K.out.call (below_size K.out.below) b)
  clear b hHeld
  refine hK.out _ _ ⟨K.out.get 0 rfl, K.out.get 1 rfl⟩ (fun hHeld0 => ?_)
  have hHeld := Aside0.mk hHeld0
  clear hHeld0
  clear hK KC
  refine nT ?_
  refine pT (i := 2) (N := some 53) ?_
  refine pT (i := 3) (N := some 54) ?_
  refine pT (i := 4) (N := some 55) ?_
  refine take_ (i := 5) (N := some 56) (v := .agg #[.int .i64 a1, .int .i64 e0, .int .i64 c1, .int .i64 f0]) (a' := ?_) #[true, true, true, true, true, true, false, false, false, false, false] rfl rfl (by kernel_rfl) (fun _ _ _ h => h) (load_mid_yields (i := 0) (cs := #[.int .i64 a1, .int .i64 e0, .int .i64 c1, .int .i64 f0]) (by rfl) 23 (.tmp 55) rfl rfl (fun _ h => h.1) (fun j v hj => by rcases j with _ | _ | _ | _ | j <;> first | exact hj | (simp at hj)) Try.underlying23 rfl rfl) hHeld.out ?_ ?_
  rotate_left
  ·simp only [Act.put, List.setIfInBounds_toArray, List.set_cons_zero, List.set_cons_succ, i64_w, i32_w]
   rfl
  refine pT (i := 6) (N := some 57) ?_
  refine pT (i := 7) (N := some 58) ?_
  refine take_ (i := 8) (N := some 59) (v := .agg #[.int .i64 a1, .int .i64 e0, .int .i64 c1, .int .i64 f0]) (a' := ?_) #[true, true, true, true, true, true, true, true, true, false, false] rfl rfl (by kernel_rfl) (fun _ _ _ h => h) (load_mid_yields (i := 4) (cs := #[.int .i64 a1, .int .i64 e0, .int .i64 c1, .int .i64 f0]) (by rfl) 23 (.tmp 58) rfl rfl (fun _ h => h.2) (fun j v hj => by rcases j with _ | _ | _ | _ | j <;> first | exact hj | (simp at hj)) Try.underlying23 rfl rfl) hHeld.out ?_ ?_
  rotate_left
  ·simp only [Act.put, List.setIfInBounds_toArray, List.set_cons_zero, List.set_cons_succ, i64_w, i32_w]
   rfl
  refine pT (i := 9) (N := some 60) ?_
  refine pT (i := 10) (N := some 61) ?_
  refine done_ (by kernel_rfl) ?_
  clear hHeld
  go_wp2
  go_roundg (2)
  case measure => omega
  case rel => exact ⟨2, rfl, by omega, ⟨K.out.tl⟩⟩
 ·have hb0 : decide (((2 : Nat) : Int) < 4) = true := rfl
  go_upto_region 9 with (first
   | ((with_reducible refine gate_dst (N := 10) rfl ?_); refine bT (N := 10) (#[.int .i64 0, .int .i64 0, .int .i64 0, .int .i64 0, .slice none 0 0]) 26 ?_; intro g10 hg W10 hbox hb; replace K := Aside0.mk (K.out.box (below_size K.out.below) hg hbox hb trivial); clear hg hbox hb)
   | ((with_reducible refine gate_store (t := 26) (p := 10) (v := .tmp 50) rfl ?_); refine store_ev rfl rfl 26 (.tmp 10) (.tmp 50) rfl rfl rfl (K.out.get 0 rfl) rfl rfl (by first | (kernel_rfl) | (simp [Value.oneCell'])) ?_; intro w10s hs; replace K := Aside0.mk (K.out.stored 0 rfl hs); clear hs))
  replace K := Aside0.mk (K.out.drew)
  refine start_ (n := 11) (S := fun w' => w'.heap[g10]? = some (.cells #[.int .i64 a0, .int .i64 e1, .int .i64 c0, .int .i64 f1, .slice A2 D2.length d2] 26 (0, 0)) ∧ w'.heap[g8]? = some (.cells #[.int .i64 a0, .int .i64 e0, .int .i64 c0, .int .i64 f0, .int .i64 a1, .int .i64 e0, .int .i64 c1, .int .i64 f0, .int .i64 a0, .int .i64 e1, .int .i64 c0, .int .i64 f1, .int .i64 a1, .int .i64 e1, .int .i64 c1, .int .i64 f1] 62 (0, 0))) (ds := []) #[false, false, false, false, false, false, false, false, false, false, false] (by kernel_rfl) rfl rfl ⟨K.out.get 0 rfl, K.out.get 1 rfl⟩ (fun hHeld0 => ?_)
  generalize hw2 : w10s.drew = w2 at *
  clear hw2
  have hHeld := Aside0.mk hHeld0
  clear hHeld0
  refine tL (i := 0) (N := some 51) (v := .agg #[.int .i64 a0, .int .i64 e1, .int .i64 c0, .int .i64 f1, .slice A2 D2.length d2]) rfl (load_yields (by rfl) 26 (.tmp 10) rfl rfl (fun _ h => h.1) Try.underlying26 rfl) hHeld.out ?_
  refine one_ (i := 1) (N := some 52) #[true, true, false, false, false, false, false, false, false, false, false] rfl rfl (by kernel_rfl) (by decide) (fun KC hK => ?_)
  refine goes_ Try.func25 (by kernel_rfl) rfl #[.agg #[.int .i64 a0, .int .i64 e1, .int .i64 c0, .int .i64 f1, .slice A2 D2.length d2]] (by rfl) rfl rfl (by simp only [List.map_toArray, List.map_cons, List.map_nil]; rfl) ?_
  refine (plane_Valid.calls a0 e1 c0 f1 A2 d2 D2 true _ (Kd.C_below HR2.out K.out.below) HC2.out HVV2.out).mono ?_
  rintro _ w3 ⟨rfl, b⟩
  refine ⟨_, rfl, ?_⟩
  replace K := Aside0.mk (K.out.call (below_size K.out.below) b)
  clear b hHeld
  refine hK.out _ _ ⟨K.out.get 0 rfl, K.out.get 1 rfl⟩ (fun hHeld0 => ?_)
  have hHeld := Aside0.mk hHeld0
  clear hHeld0
  clear hK KC
  refine nT ?_
  refine pT (i := 2) (N := some 53) ?_
  refine pT (i := 3) (N := some 54) ?_
  refine pT (i := 4) (N := some 55) ?_
  refine take_ (i := 5) (N := some 56) (v := .agg #[.int .i64 a0, .int .i64 e1, .int .i64 c0, .int .i64 f1]) (a' := ?_) #[true, true, true, true, true, true, false, false, false, false, false] rfl rfl (by kernel_rfl) (fun _ _ _ h => h) (load_mid_yields (i := 0) (cs := #[.int .i64 a0, .int .i64 e1, .int .i64 c0, .int .i64 f1]) (by rfl) 23 (.tmp 55) rfl rfl (fun _ h => h.1) (fun j v hj => by rcases j with _ | _ | _ | _ | j <;> first | exact hj | (simp at hj)) Try.underlying23 rfl rfl) hHeld.out ?_ ?_
  rotate_left
  ·simp only [Act.put, List.setIfInBounds_toArray, List.set_cons_zero, List.set_cons_succ, i64_w, i32_w]
   rfl
  refine pT (i := 6) (N := some 57) ?_
  refine pT (i := 7) (N := some 58) ?_
  refine take_ (i := 8) (N := some 59) (v := .agg #[.int .i64 a0, .int .i64 e1, .int .i64 c0, .int .i64 f1]) (a' := ?_) #[true, true, true, true, true, true, true, true, true, false, false] rfl rfl (by kernel_rfl) (fun _ _ _ h => h) (load_mid_yields (i := 8) (cs := #[.int .i64 a0, .int .i64 e1, .int .i64 c0, .int .i64 f1]) (by rfl) 23 (.tmp 58) rfl rfl (fun _ h => h.2) (fun j v hj => by rcases j with _ | _ | _ | _ | j <;> first | exact hj | (simp at hj)) Try.underlying23 rfl rfl) hHeld.out ?_ ?_
  rotate_left
  ·simp only [Act.put, List.setIfInBounds_toArray, List.set_cons_zero, List.set_cons_succ, i64_w, i32_w]
   rfl
  refine pT (i := 9) (N := some 60) ?_
  refine pT (i := 10) (N := some 61) ?_
  refine done_ (by kernel_rfl) ?_
  clear hHeld
  go_wp2
  go_roundg (1)
  case measure => omega
  case rel => exact ⟨3, rfl, by omega, ⟨K.out.tl⟩⟩
 ·have hb0 : decide (((3 : Nat) : Int) < 4) = true := rfl
  go_upto_region 9 with (first
   | ((with_reducible refine gate_dst (N := 10) rfl ?_); refine bT (N := 10) (#[.int .i64 0, .int .i64 0, .int .i64 0, .int .i64 0, .slice none 0 0]) 26 ?_; intro g10 hg W10 hbox hb; replace K := Aside0.mk (K.out.box (below_size K.out.below) hg hbox hb trivial); clear hg hbox hb)
   | ((with_reducible refine gate_store (t := 26) (p := 10) (v := .tmp 50) rfl ?_); refine store_ev rfl rfl 26 (.tmp 10) (.tmp 50) rfl rfl rfl (K.out.get 0 rfl) rfl rfl (by first | (kernel_rfl) | (simp [Value.oneCell'])) ?_; intro w10s hs; replace K := Aside0.mk (K.out.stored 0 rfl hs); clear hs))
  replace K := Aside0.mk (K.out.drew)
  refine start_ (n := 11) (S := fun w' => w'.heap[g10]? = some (.cells #[.int .i64 a1, .int .i64 e1, .int .i64 c1, .int .i64 f1, .slice A3 D3.length d3] 26 (0, 0)) ∧ w'.heap[g8]? = some (.cells #[.int .i64 a0, .int .i64 e0, .int .i64 c0, .int .i64 f0, .int .i64 a1, .int .i64 e0, .int .i64 c1, .int .i64 f0, .int .i64 a0, .int .i64 e1, .int .i64 c0, .int .i64 f1, .int .i64 a1, .int .i64 e1, .int .i64 c1, .int .i64 f1] 62 (0, 0))) (ds := []) #[false, false, false, false, false, false, false, false, false, false, false] (by kernel_rfl) rfl rfl ⟨K.out.get 0 rfl, K.out.get 1 rfl⟩ (fun hHeld0 => ?_)
  generalize hw2 : w10s.drew = w2 at *
  clear hw2
  have hHeld := Aside0.mk hHeld0
  clear hHeld0
  refine tL (i := 0) (N := some 51) (v := .agg #[.int .i64 a1, .int .i64 e1, .int .i64 c1, .int .i64 f1, .slice A3 D3.length d3]) rfl (load_yields (by rfl) 26 (.tmp 10) rfl rfl (fun _ h => h.1) Try.underlying26 rfl) hHeld.out ?_
  refine one_ (i := 1) (N := some 52) #[true, true, false, false, false, false, false, false, false, false, false] rfl rfl (by kernel_rfl) (by decide) (fun KC hK => ?_)
  refine goes_ Try.func25 (by kernel_rfl) rfl #[.agg #[.int .i64 a1, .int .i64 e1, .int .i64 c1, .int .i64 f1, .slice A3 D3.length d3]] (by rfl) rfl rfl (by simp only [List.map_toArray, List.map_cons, List.map_nil]; rfl) ?_
  refine (plane_Valid.calls a1 e1 c1 f1 A3 d3 D3 true _ (Kd.C_below HR3.out K.out.below) HC3.out HVV3.out).mono ?_
  rintro _ w3 ⟨rfl, b⟩
  refine ⟨_, rfl, ?_⟩
  replace K := Aside0.mk (K.out.call (below_size K.out.below) b)
  clear b hHeld
  refine hK.out _ _ ⟨K.out.get 0 rfl, K.out.get 1 rfl⟩ (fun hHeld0 => ?_)
  have hHeld := Aside0.mk hHeld0
  clear hHeld0
  clear hK KC
  refine nT ?_
  refine pT (i := 2) (N := some 53) ?_
  refine pT (i := 3) (N := some 54) ?_
  refine pT (i := 4) (N := some 55) ?_
  refine take_ (i := 5) (N := some 56) (v := .agg #[.int .i64 a1, .int .i64 e1, .int .i64 c1, .int .i64 f1]) (a' := ?_) #[true, true, true, true, true, true, false, false, false, false, false] rfl rfl (by kernel_rfl) (fun _ _ _ h => h) (load_mid_yields (i := 0) (cs := #[.int .i64 a1, .int .i64 e1, .int .i64 c1, .int .i64 f1]) (by rfl) 23 (.tmp 55) rfl rfl (fun _ h => h.1) (fun j v hj => by rcases j with _ | _ | _ | _ | j <;> first | exact hj | (simp at hj)) Try.underlying23 rfl rfl) hHeld.out ?_ ?_
  rotate_left
  ·simp only [Act.put, List.setIfInBounds_toArray, List.set_cons_zero, List.set_cons_succ, i64_w, i32_w]
   rfl
  refine pT (i := 6) (N := some 57) ?_
  refine pT (i := 7) (N := some 58) ?_
  refine take_ (i := 8) (N := some 59) (v := .agg #[.int .i64 a1, .int .i64 e1, .int .i64 c1, .int .i64 f1]) (a' := ?_) #[true, true, true, true, true, true, true, true, true, false, false] rfl rfl (by kernel_rfl) (fun _ _ _ h => h) (load_mid_yields (i := 12) (cs := #[.int .i64 a1, .int .i64 e1, .int .i64 c1, .int .i64 f1]) (by rfl) 23 (.tmp 58) rfl rfl (fun _ h => h.2) (fun j v hj => by rcases j with _ | _ | _ | _ | j <;> first | exact hj | (simp at hj)) Try.underlying23 rfl rfl) hHeld.out ?_ ?_
  rotate_left
  ·simp only [Act.put, List.setIfInBounds_toArray, List.set_cons_zero, List.set_cons_succ, i64_w, i32_w]
   rfl
  refine pT (i := 9) (N := some 60) ?_
  refine pT (i := 10) (N := some 61) ?_
  refine done_ (by kernel_rfl) ?_
  clear hHeld
  go_wp2
  go_roundg (0)
  case measure => omega
  case rel => exact ⟨4, rfl, by omega, ⟨K.out.tl⟩⟩
 ·have hb0 : decide (((4 : Nat) : Int) < 4) = false := rfl
  go_wp2_with (first
   | ((with_reducible refine gate_dst (N := 64) rfl ?_); refine load_all_ev rfl 59 (.tmp 3) rfl rfl (K.out.get 3 rfl) Try.underlying59 rfl rfl ?_))
  clear hb0 HVV0 HVV1 HVV2 HVV3
  go_loopg [65] 4 (fun kq v65 w' => ∃ n : Nat, v65 = .int .i64 (n : Int) ∧ n + kq = 4 ∧ Aside0 (Hold w.heap.size w w' [(g8, 62, #[.int .i64 a0, .int .i64 e0, .int .i64 c0, .int .i64 f0, .int .i64 a1, .int .i64 e0, .int .i64 c1, .int .i64 f0, .int .i64 a0, .int .i64 e1, .int .i64 c0, .int .i64 f1, .int .i64 a1, .int .i64 e1, .int .i64 c1, .int .i64 f1]), (g6, 26, #[.int .i64 0, .int .i64 0, .int .i64 0, .int .i64 0, .slice none 0 0]), (g4, 23, #[.int .i64 x0, .int .i64 y0, .int .i64 x1, .int .i64 y1]), (g3, 59, #[.int .i64 a0, .int .i64 e0, .int .i64 c0, .int .i64 f0, .slice A0 D0.length d0, .int .i64 a1, .int .i64 e0, .int .i64 c1, .int .i64 f0, .slice A1 D1.length d1, .int .i64 a0, .int .i64 e1, .int .i64 c0, .int .i64 f1, .slice A2 D2.length d2, .int .i64 a1, .int .i64 e1, .int .i64 c1, .int .i64 f1, .slice A3 D3.length d3])] []))
  case atStart => exact ⟨0, rfl, rfl, K⟩
  case round =>
  clear K
  obtain ⟨n, rfl, hn, K⟩ := hrel
  have hn4 : n = 0 ∨ n = 1 ∨ n = 2 ∨ n = 3 ∨ n = 4 := by omega
  rcases hn4 with rfl | rfl | rfl | rfl | rfl
  ·have hb0 : decide (((0 : Nat) : Int) < 4) = true := rfl
   go_wp2_with (first
    | ((with_reducible refine gate_dst (N := 12) rfl ?_); refine bT (N := 12) (#[.int .i64 0, .int .i64 0, .int .i64 0, .int .i64 0, .slice none 0 0]) 26 ?_; intro g12 hg W12 hbox hb; replace K := Aside0.mk (K.out.box (below_size K.out.below) hg hbox hb trivial); clear hg hbox hb)
    | ((with_reducible refine gate_store (t := 26) (p := 12) (v := .tmp 67) rfl ?_); refine store_ev rfl rfl 26 (.tmp 12) (.tmp 67) rfl rfl rfl (K.out.get 0 rfl) rfl rfl (by first | (kernel_rfl) | (simp [Value.oneCell'])) ?_; intro w12s hs; replace K := Aside0.mk (K.out.stored 0 rfl hs); clear hs; have p4 : w12s.cell? ⟨g12, 4, none⟩ = some (.slice A0 D0.length d0) := K.out.cell 0 rfl 4 rfl)
    | (go_at_call 57; (with_reducible refine (dwt_exceeds.calls ke A0 d0 D0 281474976710656 false _ (Kd.C_below HR0.out K.out.below) HC0.out HEX0.out).mono ?_); rintro _ w57 ⟨rfl, b⟩; replace K := Aside0.mk (K.out.call (below_size K.out.below) b.below); clear b p4))
   go_roundg (3)
   case measure => omega
   case rel => exact ⟨1, rfl, by omega, ⟨K.out.tl⟩⟩
  ·have hb0 : decide (((1 : Nat) : Int) < 4) = true := rfl
   go_wp2_with (first
    | ((with_reducible refine gate_dst (N := 12) rfl ?_); refine bT (N := 12) (#[.int .i64 0, .int .i64 0, .int .i64 0, .int .i64 0, .slice none 0 0]) 26 ?_; intro g12 hg W12 hbox hb; replace K := Aside0.mk (K.out.box (below_size K.out.below) hg hbox hb trivial); clear hg hbox hb)
    | ((with_reducible refine gate_store (t := 26) (p := 12) (v := .tmp 67) rfl ?_); refine store_ev rfl rfl 26 (.tmp 12) (.tmp 67) rfl rfl rfl (K.out.get 0 rfl) rfl rfl (by first | (kernel_rfl) | (simp [Value.oneCell'])) ?_; intro w12s hs; replace K := Aside0.mk (K.out.stored 0 rfl hs); clear hs; have p4 : w12s.cell? ⟨g12, 4, none⟩ = some (.slice A1 D1.length d1) := K.out.cell 0 rfl 4 rfl)
    | (go_at_call 57; (with_reducible refine (dwt_exceeds.calls ke A1 d1 D1 281474976710656 false _ (Kd.C_below HR1.out K.out.below) HC1.out HEX1.out).mono ?_); rintro _ w57 ⟨rfl, b⟩; replace K := Aside0.mk (K.out.call (below_size K.out.below) b.below); clear b p4))
   go_roundg (2)
   case measure => omega
   case rel => exact ⟨2, rfl, by omega, ⟨K.out.tl⟩⟩
  ·have hb0 : decide (((2 : Nat) : Int) < 4) = true := rfl
   go_wp2_with (first
    | ((with_reducible refine gate_dst (N := 12) rfl ?_); refine bT (N := 12) (#[.int .i64 0, .int .i64 0, .int .i64 0, .int .i64 0, .slice none 0 0]) 26 ?_; intro g12 hg W12 hbox hb; replace K := Aside0.mk (K.out.box (below_size K.out.below) hg hbox hb trivial); clear hg hbox hb)
    | ((with_reducible refine gate_store (t := 26) (p := 12) (v := .tmp 67) rfl ?_); refine store_ev rfl rfl 26 (.tmp 12) (.tmp 67) rfl rfl rfl (K.out.get 0 rfl) rfl rfl (by first | (kernel_rfl) | (simp [Value.oneCell'])) ?_; intro w12s hs; replace K := Aside0.mk (K.out.stored 0 rfl hs); clear hs; have p4 : w12s.cell? ⟨g12, 4, none⟩ = some (.slice A2 D2.length d2) := K.out.cell 0 rfl 4 rfl)
    | (go_at_call 57; (with_reducible refine (dwt_exceeds.calls ke A2 d2 D2 281474976710656 false _ (Kd.C_below HR2.out K.out.below) HC2.out HEX2.out).mono ?_); rintro _ w57 ⟨rfl, b⟩; replace K := Aside0.mk (K.out.call (below_size K.out.below) b.below); clear b p4))
   go_roundg (1)
   case measure => omega
   case rel => exact ⟨3, rfl, by omega, ⟨K.out.tl⟩⟩
  ·have hb0 : decide (((3 : Nat) : Int) < 4) = true := rfl
   go_wp2_with (first
    | ((with_reducible refine gate_dst (N := 12) rfl ?_); refine bT (N := 12) (#[.int .i64 0, .int .i64 0, .int .i64 0, .int .i64 0, .slice none 0 0]) 26 ?_; intro g12 hg W12 hbox hb; replace K := Aside0.mk (K.out.box (below_size K.out.below) hg hbox hb trivial); clear hg hbox hb)
    | ((with_reducible refine gate_store (t := 26) (p := 12) (v := .tmp 67) rfl ?_); refine store_ev rfl rfl 26 (.tmp 12) (.tmp 67) rfl rfl rfl (K.out.get 0 rfl) rfl rfl (by first | (kernel_rfl) | (simp [Value.oneCell'])) ?_; intro w12s hs; replace K := Aside0.mk (K.out.stored 0 rfl hs); clear hs; have p4 : w12s.cell? ⟨g12, 4, none⟩ = some (.slice A3 D3.length d3) := K.out.cell 0 rfl 4 rfl)
    | (go_at_call 57; (with_reducible refine (dwt_exceeds.calls ke A3 d3 D3 281474976710656 false _ (Kd.C_below HR3.out K.out.below) HC3.out HEX3.out).mono ?_); rintro _ w57 ⟨rfl, b⟩; replace K := Aside0.mk (K.out.call (below_size K.out.below) b.below); clear b p4))
   go_roundg (0)
   case measure => omega
   case rel => exact ⟨4, rfl, by omega, ⟨K.out.tl⟩⟩
  ·have hb0 : decide (((4 : Nat) : Int) < 4) = false := rfl
   go_wp2_with (first
    | ((with_reducible refine gate_dst (N := 13) rfl ?_); refine bT (N := 13) (#[.int .i64 0, .int .i64 0, .int .i64 0, .int .i64 0, .slice none 0 0, .int .i64 0, .int .i64 0, .int .i64 0, .int .i64 0, .slice none 0 0]) 78 ?_; intro g13 hg W13 hbox hb; replace K := Aside0.mk (K.out.box (below_size K.out.below) hg hbox hb trivial); clear hg hbox hb))
   clear hb0 hn HEX0 HEX1 HEX2 HEX3
   go_loopg [73] 2 (fun kq v73 w' => ∃ n : Nat, v73 = .int .i64 (n : Int) ∧ n + kq = 2 ∧ ((n = 0 ∧ Aside0 (Hold w.heap.size w w' [(g13, 78, #[.int .i64 0, .int .i64 0, .int .i64 0, .int .i64 0, .slice none 0 0, .int .i64 0, .int .i64 0, .int .i64 0, .int .i64 0, .slice none 0 0]), (g8, 62, #[.int .i64 a0, .int .i64 e0, .int .i64 c0, .int .i64 f0, .int .i64 a1, .int .i64 e0, .int .i64 c1, .int .i64 f0, .int .i64 a0, .int .i64 e1, .int .i64 c0, .int .i64 f1, .int .i64 a1, .int .i64 e1, .int .i64 c1, .int .i64 f1]), (g6, 26, #[.int .i64 0, .int .i64 0, .int .i64 0, .int .i64 0, .slice none 0 0]), (g4, 23, #[.int .i64 x0, .int .i64 y0, .int .i64 x1, .int .i64 y1]), (g3, 59, #[.int .i64 a0, .int .i64 e0, .int .i64 c0, .int .i64 f0, .slice A0 D0.length d0, .int .i64 a1, .int .i64 e0, .int .i64 c1, .int .i64 f0, .slice A1 D1.length d1, .int .i64 a0, .int .i64 e1, .int .i64 c0, .int .i64 f1, .slice A2 D2.length d2, .int .i64 a1, .int .i64 e1, .int .i64 c1, .int .i64 f1, .slice A3 D3.length d3])] [])) ∨ (n = 1 ∧ ∃ vh0 : Value, Aside0 (Hold w.heap.size w w' [(g13, 78, #[.int .i64 a0, .int .i64 y0, .int .i64 c0, .int .i64 y1, vh0, .int .i64 0, .int .i64 0, .int .i64 0, .int .i64 0, .slice none 0 0]), (g8, 62, #[.int .i64 a0, .int .i64 e0, .int .i64 c0, .int .i64 f0, .int .i64 a1, .int .i64 e0, .int .i64 c1, .int .i64 f0, .int .i64 a0, .int .i64 e1, .int .i64 c0, .int .i64 f1, .int .i64 a1, .int .i64 e1, .int .i64 c1, .int .i64 f1]), (g6, 26, #[.int .i64 0, .int .i64 0, .int .i64 0, .int .i64 0, .slice none 0 0]), (g4, 23, #[.int .i64 x0, .int .i64 y0, .int .i64 x1, .int .i64 y1]), (g3, 59, #[.int .i64 a0, .int .i64 e0, .int .i64 c0, .int .i64 f0, .slice A0 D0.length d0, .int .i64 a1, .int .i64 e0, .int .i64 c1, .int .i64 f0, .slice A1 D1.length d1, .int .i64 a0, .int .i64 e1, .int .i64 c0, .int .i64 f1, .slice A2 D2.length d2, .int .i64 a1, .int .i64 e1, .int .i64 c1, .int .i64 f1, .slice A3 D3.length d3])] [(vh0, H0)])) ∨ (n = 2 ∧ ∃ vh0 vh1 : Value, Aside0 (Hold w.heap.size w w' [(g13, 78, #[.int .i64 a0, .int .i64 y0, .int .i64 c0, .int .i64 y1, vh0, .int .i64 a1, .int .i64 y0, .int .i64 c1, .int .i64 y1, vh1]), (g8, 62, #[.int .i64 a0, .int .i64 e0, .int .i64 c0, .int .i64 f0, .int .i64 a1, .int .i64 e0, .int .i64 c1, .int .i64 f0, .int .i64 a0, .int .i64 e1, .int .i64 c0, .int .i64 f1, .int .i64 a1, .int .i64 e1, .int .i64 c1, .int .i64 f1]), (g6, 26, #[.int .i64 0, .int .i64 0, .int .i64 0, .int .i64 0, .slice none 0 0]), (g4, 23, #[.int .i64 x0, .int .i64 y0, .int .i64 x1, .int .i64 y1]), (g3, 59, #[.int .i64 a0, .int .i64 e0, .int .i64 c0, .int .i64 f0, .slice A0 D0.length d0, .int .i64 a1, .int .i64 e0, .int .i64 c1, .int .i64 f0, .slice A1 D1.length d1, .int .i64 a0, .int .i64 e1, .int .i64 c0, .int .i64 f1, .slice A2 D2.length d2, .int .i64 a1, .int .i64 e1, .int .i64 c1, .int .i64 f1, .slice A3 D3.length d3])] [(vh1, H1), (vh0, H0)]))))
   case atStart => exact ⟨0, rfl, rfl, .inl ⟨rfl, K⟩⟩
   case round =>
   clear K
   obtain ⟨n, rfl, hn, hKK⟩ := hrel
   rcases hKK with ⟨rfl, K⟩ | ⟨rfl, vh0, K⟩ | ⟨rfl, vh0, vh1, K⟩
   ·have hb0 : decide (((0 : Nat) : Int) < 2) = true := rfl
    go_upto_region 22 with (fail)
    clear hb0
    go_cut [15] (fun v15 wc => ∃ (g15 : Nat) (Az : Option Addr) (dz : Nat), v15 = .pointer (some ⟨g15, 0, none⟩) ∧ Aside0 (Hold w.heap.size w wc [(g15, 26, #[.int .i64 a0, .int .i64 y0, .int .i64 c0, .int .i64 y1, .slice Az Z0.length dz]), (g13, 78, #[.int .i64 0, .int .i64 0, .int .i64 0, .int .i64 0, .slice none 0 0, .int .i64 0, .int .i64 0, .int .i64 0, .int .i64 0, .slice none 0 0]), (g8, 62, #[.int .i64 a0, .int .i64 e0, .int .i64 c0, .int .i64 f0, .int .i64 a1, .int .i64 e0, .int .i64 c1, .int .i64 f0, .int .i64 a0, .int .i64 e1, .int .i64 c0, .int .i64 f1, .int .i64 a1, .int .i64 e1, .int .i64 c1, .int .i64 f1]), (g6, 26, #[.int .i64 0, .int .i64 0, .int .i64 0, .int .i64 0, .slice none 0 0]), (g4, 23, #[.int .i64 x0, .int .i64 y0, .int .i64 x1, .int .i64 y1]), (g3, 59, #[.int .i64 a0, .int .i64 e0, .int .i64 c0, .int .i64 f0, .slice A0 D0.length d0, .int .i64 a1, .int .i64 e0, .int .i64 c1, .int .i64 f0, .slice A1 D1.length d1, .int .i64 a0, .int .i64 e1, .int .i64 c0, .int .i64 f1, .slice A2 D2.length d2, .int .i64 a1, .int .i64 e1, .int .i64 c1, .int .i64 f1, .slice A3 D3.length d3])] [(.slice Az Z0.length dz, Z0)]))
    case first =>
     replace K := Aside0.mk (K.out.drew)
     refine start_ (n := 16) (S := fun w' => w'.cell? ⟨g8, 0, none⟩ = some (.int .i64 a0) ∧ w'.cell? ⟨g4, 1, none⟩ = some (.int .i64 y0) ∧ w'.cell? ⟨g8, 2, none⟩ = some (.int .i64 c0) ∧ w'.cell? ⟨g4, 3, none⟩ = some (.int .i64 y1)) (ds := [15]) #[false, false, false, false, false, false, false, false, false, false, false, false, false, false, false, false] (by kernel_rfl) rfl rfl ⟨K.out.cell 1 rfl 0 rfl, K.out.cell 3 rfl 1 rfl, K.out.cell 1 rfl 2 rfl, K.out.cell 3 rfl 3 rfl⟩ (fun hHeld0 => ?_)
     generalize hw2 : wr.drew = w2 at *
     clear hw2
     have hHeld := Aside0.mk hHeld0
     clear hHeld0
     refine pT (i := 0) (N := some 76) ?_
     refine pT (i := 1) (N := some 77) ?_
     refine pT (i := 2) (N := some 78) ?_
     refine tT (i := 3) (N := some 79) (v := ?_) hHeld.out ?_
     refine pT (i := 4) (N := some 80) ?_
     refine tT (i := 5) (N := some 81) (v := ?_) hHeld.out ?_
     refine pT (i := 6) (N := some 82) ?_
     refine pT (i := 7) (N := some 83) ?_
     refine pT (i := 8) (N := some 84) ?_
     refine tT (i := 9) (N := some 85) (v := ?_) hHeld.out ?_
     refine pT (i := 10) (N := some 86) ?_
     refine tT (i := 11) (N := some 87) (v := ?_) hHeld.out ?_
     refine pT (i := 12) (N := some 88) ?_
     refine two_ (i := 13) (j := 14) (Ni := some 89) (Nj := some 15) #[true, true, true, true, true, true, true, true, true, true, true, true, true, true, false, false] #[true, true, true, true, true, true, true, true, true, true, true, true, true, false, true, false] rfl rfl rfl rfl (by kernel_rfl) (by decide) (by decide) (fun KC hK => ?_) (fun KC hK => ?_)
     ·skip
      refine goes_ Try.func60 (by kernel_rfl) rfl #[.agg #[.int .i64 a0, .int .i64 y0, .int .i64 c0, .int .i64 y1]] (by rfl) rfl rfl (by simp only [List.map_toArray, List.map_cons, List.map_nil]; rfl) ?_
      refine (dwt_empty.calls a0 y0 c0 y1 a0 y0 c0 y1 Z0 _ HE0.out).mono ?_
      rintro _ w3 ⟨vz, rfl, hR, b⟩
      obtain ⟨Az, dz, rfl⟩ := Kd.R_slice hR
      refine ⟨_, rfl, ?_⟩
      replace K := Aside0.mk (K.out.add (below_size K.out.below) hR b)
      clear b hR hHeld
      refine hK.out _ _ ⟨K.out.cell 1 rfl 0 rfl, K.out.cell 3 rfl 1 rfl, K.out.cell 1 rfl 2 rfl, K.out.cell 3 rfl 3 rfl⟩ (fun hHeld0 => ?_)
      have hHeld := Aside0.mk hHeld0
      clear hHeld0
      clear hK KC
      refine nT ?_
      refine one_ (i := 14) (N := some 15) #[true, true, true, true, true, true, true, true, true, true, true, true, true, true, true, false] rfl rfl (by kernel_rfl) (by decide) (fun KC hK => ?_)
      refine box_step ?hg (N := 15) ?hd (cs := #[.int .i64 0, .int .i64 0, .int .i64 0, .int .i64 0, .slice none 0 0]) (t := 26) ?hr ?_
      case hd => rfl
      case hg => rfl
      case hr => first | (go_simp; done) | (go_simp; rfl)
      intro g15 hg w4 hbox hb
      replace K := Aside0.mk (K.out.box (below_size K.out.below) hg hbox hb trivial)
      clear hg hbox hb hHeld
      refine hK.out _ _ ⟨K.out.cell 2 rfl 0 rfl, K.out.cell 4 rfl 1 rfl, K.out.cell 2 rfl 2 rfl, K.out.cell 4 rfl 3 rfl⟩ (fun hHeld0 => ?_)
      have hHeld := Aside0.mk hHeld0
      clear hHeld0
      clear hK KC
      refine nT ?_
      refine last_ (i := 15) (N := none) #[true, true, true, true, true, true, true, true, true, true, true, true, true, true, true, true] rfl rfl (by kernel_rfl) (by decide) (fun KC hK => ?_)
      refine store_step (cs := #[.int .i64 a0, .int .i64 y0, .int .i64 c0, .int .i64 y1, .slice Az Z0.length dz]) (by rfl) rfl 26 (.tmp 15) (.tmp 89) rfl rfl (by kernel_rfl) (K.out.get 0 rfl) rfl rfl (by first | (kernel_rfl) | (simp [Value.oneCell'])) ?_
      intro WS hs
      refine hK.out _ _ ?_
      replace K := Aside0.mk (K.out.stored 0 rfl hs)
      clear hK KC hs hHeld
      refine done_ (by kernel_rfl) ?_
      go_wp2
      go_meet
      case rel => exact ⟨_, _, _, rfl, ⟨K.out⟩⟩
     ·skip
      refine box_step ?hg (N := 15) ?hd (cs := #[.int .i64 0, .int .i64 0, .int .i64 0, .int .i64 0, .slice none 0 0]) (t := 26) ?hr ?_
      case hd => rfl
      case hg => rfl
      case hr => first | (go_simp; done) | (go_simp; rfl)
      intro g15 hg w4 hbox hb
      replace K := Aside0.mk (K.out.box (below_size K.out.below) hg hbox hb trivial)
      clear hg hbox hb hHeld
      refine hK.out _ _ ⟨K.out.cell 2 rfl 0 rfl, K.out.cell 4 rfl 1 rfl, K.out.cell 2 rfl 2 rfl, K.out.cell 4 rfl 3 rfl⟩ (fun hHeld0 => ?_)
      have hHeld := Aside0.mk hHeld0
      clear hHeld0
      clear hK KC
      refine nT ?_
      refine one_ (i := 13) (N := some 89) #[true, true, true, true, true, true, true, true, true, true, true, true, true, true, true, false] rfl rfl (by kernel_rfl) (by decide) (fun KC hK => ?_)
      refine goes_ Try.func60 (by kernel_rfl) rfl #[.agg #[.int .i64 a0, .int .i64 y0, .int .i64 c0, .int .i64 y1]] (by rfl) rfl rfl (by simp only [List.map_toArray, List.map_cons, List.map_nil]; rfl) ?_
      refine (dwt_empty.calls a0 y0 c0 y1 a0 y0 c0 y1 Z0 _ HE0.out).mono ?_
      rintro _ w3 ⟨vz, rfl, hR, b⟩
      obtain ⟨Az, dz, rfl⟩ := Kd.R_slice hR
      refine ⟨_, rfl, ?_⟩
      replace K := Aside0.mk (K.out.add (below_size K.out.below) hR b)
      clear b hR hHeld
      refine hK.out _ _ ⟨K.out.cell 2 rfl 0 rfl, K.out.cell 4 rfl 1 rfl, K.out.cell 2 rfl 2 rfl, K.out.cell 4 rfl 3 rfl⟩ (fun hHeld0 => ?_)
      have hHeld := Aside0.mk hHeld0
      clear hHeld0
      clear hK KC
      refine nT ?_
      refine last_ (i := 15) (N := none) #[true, true, true, true, true, true, true, true, true, true, true, true, true, true, true, true] rfl rfl (by kernel_rfl) (by decide) (fun KC hK => ?_)
      refine store_step (cs := #[.int .i64 a0, .int .i64 y0, .int .i64 c0, .int .i64 y1, .slice Az Z0.length dz]) (by rfl) rfl 26 (.tmp 15) (.tmp 89) rfl rfl (by kernel_rfl) (K.out.get 0 rfl) rfl rfl (by first | (kernel_rfl) | (simp [Value.oneCell'])) ?_
      intro WS hs
      refine hK.out _ _ ?_
      replace K := Aside0.mk (K.out.stored 0 rfl hs)
      clear hK KC hs hHeld
      refine done_ (by kernel_rfl) ?_
      go_wp2
      go_meet
      case rel => exact ⟨_, _, _, rfl, ⟨K.out⟩⟩
    case rest =>
    obtain ⟨g15, Az, dz, rfl, K⟩ := hcut
    have q0 : wc.cell? ⟨g15, 0, none⟩ = some (.int .i64 a0) := K.out.cell 0 rfl 0 rfl
    go_wp2
    clear q0 HE0
    go_loopg [16] k (fun kq v16 w' => ∃ (x : Int) (E : List Int), v16 = .int .i64 x ∧ Aside0 (a0 ≤ x) ∧ Aside0 (mcolsF kk ks a0 c0 y0 D0 D2 kq x E = some H0) ∧ Aside0 (Hold w.heap.size w w' [(g15, 26, #[.int .i64 a0, .int .i64 y0, .int .i64 c0, .int .i64 y1, .slice Az Z0.length dz]), (g13, 78, #[.int .i64 0, .int .i64 0, .int .i64 0, .int .i64 0, .slice none 0 0, .int .i64 0, .int .i64 0, .int .i64 0, .int .i64 0, .slice none 0 0]), (g8, 62, #[.int .i64 a0, .int .i64 e0, .int .i64 c0, .int .i64 f0, .int .i64 a1, .int .i64 e0, .int .i64 c1, .int .i64 f0, .int .i64 a0, .int .i64 e1, .int .i64 c0, .int .i64 f1, .int .i64 a1, .int .i64 e1, .int .i64 c1, .int .i64 f1]), (g6, 26, #[.int .i64 0, .int .i64 0, .int .i64 0, .int .i64 0, .slice none 0 0]), (g4, 23, #[.int .i64 x0, .int .i64 y0, .int .i64 x1, .int .i64 y1]), (g3, 59, #[.int .i64 a0, .int .i64 e0, .int .i64 c0, .int .i64 f0, .slice A0 D0.length d0, .int .i64 a1, .int .i64 e0, .int .i64 c1, .int .i64 f0, .slice A1 D1.length d1, .int .i64 a0, .int .i64 e1, .int .i64 c0, .int .i64 f1, .slice A2 D2.length d2, .int .i64 a1, .int .i64 e1, .int .i64 c1, .int .i64 f1, .slice A3 D3.length d3])] [(.slice Az Z0.length dz, E)]))
    case atStart => exact ⟨a0, Z0, rfl, ⟨Int.le_refl _⟩, HM0, ⟨K.out⟩⟩
    case round =>
    clear K HM0
    obtain ⟨x, E, rfl, HX0, HX, K⟩ := hrel
    cases gk with
    | zero => exact absurd HX.out (by simp [mcolsF])
    | succ kq =>
    have hs := HX.out
    clear HX
    rw [mcolsF.eq_2] at hs
    have f2 : wr.cell? ⟨g15, 2, none⟩ = some (.int .i64 c0) := K.out.cell 0 rfl 2 rfl
    by_cases hi : x < c0
    ·rw [if_pos hi] at hs
     have hb0 : decide (x < c0) = true := decide_eq_true hi
     obtain ⟨lo, hcol0, hs⟩ := Option.bind_eq_some_iff.mp hs
     obtain ⟨hi_, hcol1, hs⟩ := Option.bind_eq_some_iff.mp hs
     by_cases hbd : lo.length + hi_.length ≤ 4096 ∧ cntE y0 ((lo.length + hi_.length : Nat) : Int) = (lo.length : Int) ∧ lift_bounded.f ks lo 1125899906842624 = some true ∧ lift_bounded.f ks hi_ 1125899906842624 = some true
     rotate_left
     ·rw [if_neg hbd] at hs
      cases hs
     rw [if_pos hbd] at hs
     obtain ⟨z, hz, hs⟩ := Option.bind_eq_some_iff.mp hs
     obtain ⟨E1, hE1, hs⟩ := Option.bind_eq_some_iff.mp hs
     have HX := Aside0.mk hs
     have HCOL0 := Aside0.mk hcol0
     have HCOL2 := Aside0.mk hcol1
     have HBD := Aside0.mk hbd
     have HZ := Aside0.mk hz
     have HE1_ := Aside0.mk hE1
     have HXI := Aside0.mk (And.intro HX0.out hi)
     clear hs hcol0 hcol1 hbd hz hE1 hi HX0
     have hwx : wrap64 (x + 1) = x + 1 := by have := HXI.out; have := HW0.out.1; unfold wrap64; omega
     go_wp2_with (first
      | ((with_reducible refine gate_dst (N := 103) rfl ?_); refine load_mid_ev (i := 0) (cs := #[.int .i64 a0, .int .i64 e0, .int .i64 c0, .int .i64 f0, .slice A0 D0.length d0]) rfl 26 (.tmp 102) rfl rfl (K.out.get 5 rfl) (fun j v hj => by rcases j with _ | _ | _ | _ | _ | j <;> first | exact hj | (simp at hj)) Try.underlying26 rfl rfl ?_)
      | (go_at_call 62; (with_reducible refine (plane_Column.good ks a0 e0 c0 f0 A0 d0 D0 x lo _ (Kd.C_below HR0.out K.out.below) HC0.out HV0.out HXI.out.1 HXI.out.2 HCOL0.out).mono ?_); rintro _ w90 ⟨vc, rfl, hR, b⟩; obtain ⟨C0, q0, rfl⟩ := Kd.R_slice hR; have HRW0 := Aside0.mk hR; replace K := Aside0.mk (K.out.call (below_size K.out.below) b); clear hR; clear b f2)
      | ((with_reducible refine gate_dst (N := 112) rfl ?_); refine load_mid_ev (i := 10) (cs := #[.int .i64 a0, .int .i64 e1, .int .i64 c0, .int .i64 f1, .slice A2 D2.length d2]) rfl 26 (.tmp 111) rfl rfl (K.out.get 5 rfl) (fun j v hj => by rcases j with _ | _ | _ | _ | _ | j <;> first | exact hj | (simp at hj)) Try.underlying26 rfl rfl ?_)
      | (go_at_call 62; (with_reducible refine (plane_Column.good ks a0 e1 c0 f1 A2 d2 D2 x hi_ _ (Kd.C_below HR2.out K.out.below) HC2.out HV2.out HXI.out.1 HXI.out.2 HCOL2.out).mono ?_); rintro _ w92 ⟨vc, rfl, hR, b⟩; obtain ⟨C2, q2, rfl⟩ := Kd.R_slice hR; have HRW2 := Aside0.mk hR; replace K := Aside0.mk (K.out.call (below_size K.out.below) b); clear hR; replace HRW0 := Aside0.mk (Kd.R_below HRW0.out b); clear b; have f1 : w92.cell? ⟨g4, 1, none⟩ = some (.int .i64 y0) := K.out.cell 4 rfl 1 rfl; have HLT := Aside0.mk (fun k hk => Kd.R_lt (K.out.rowAt 0 rfl) k hk))
      | (go_at_call 67; (with_reducible refine (lift_Inverse.good ks ks kk C0 q0 lo C2 q2 hi_ y0 z _ (Kd.R_reads' HRW0.out).2.2 (Kd.R_reads' HRW0.out).2.1 (Kd.R_reads' HRW2.out).2.2 (Kd.R_reads' HRW2.out).2.1 HKK.out.1 HKK.out.2 HY01.out.1 (by have := HY01.out; omega) HBD.out.1 HBD.out.2.1 HBD.out.2.2.1 HBD.out.2.2.2 HZ.out).mono ?_); rintro _ w67 ⟨vz, rfl, hR, b⟩; obtain ⟨Cz, qz, rfl⟩ := Kd.R_slice hR; have HRZ := Aside0.mk hR; replace K := Aside0.mk (K.out.call (below_size K.out.below) b); clear b hR f1 HRW0 HRW2)
      | (go_at_call 63; refine (setColumn.hold (o := 0) (i := 0) (j := 0) K.out rfl rfl rfl rfl rfl HRZ.out HLT.out HE1_.out).mono ?_; rintro _ w63 ⟨rfl, hH, hK⟩; clear K; have K := Aside0.mk hH; clear hH hK HRZ HLT))
     go_roundg kq
     case measure => omega
     case rel => exact ⟨x + 1, E1, by rw [hwx], ⟨by have := HXI.out; omega⟩, HX, ⟨K.out⟩⟩
    ·rw [if_neg hi] at hs
     have hb0 : decide (x < c0) = false := decide_eq_false hi
     obtain rfl := Option.some.inj hs
     clear hs hi HX0
     go_wp2_with (first
      | ((with_reducible refine gate_dst (N := 134) rfl ?_); refine load_ev rfl 26 (.tmp 15) rfl rfl (K.out.get 0 rfl) Try.underlying26 rfl ?_)
      | ((with_reducible refine gate_store (t := 26) (p := 135) (v := .tmp 134) rfl ?_); refine store_mid_ev (cs := #[.int .i64 a0, .int .i64 y0, .int .i64 c0, .int .i64 y1, .slice Az Z0.length dz]) rfl rfl 26 (.tmp 135) (.tmp 134) rfl rfl (by kernel_rfl) (K.out.get 1 rfl) (Nat.le_of_ble_eq_true rfl) rfl (by first | (kernel_rfl) | (simp [Value.oneCell'])) (new := #[.int .i64 a0, .int .i64 y0, .int .i64 c0, .int .i64 y1, (.slice Az Z0.length dz), .int .i64 0, .int .i64 0, .int .i64 0, .int .i64 0, .slice none 0 0]) rfl ?_; intro wS hs; replace K := Aside0.mk (K.out.stored 1 rfl hs); clear hs))
     go_roundg (1)
     case measure => omega
     case rel => exact ⟨1, rfl, by omega, .inr (.inl ⟨rfl, _, ⟨K.out.tl⟩⟩)⟩
   ·have hb0 : decide (((1 : Nat) : Int) < 2) = true := rfl
    go_upto_region 22 with (fail)
    clear hb0
    go_cut [15] (fun v15 wc => ∃ (g15 : Nat) (Az : Option Addr) (dz : Nat), v15 = .pointer (some ⟨g15, 0, none⟩) ∧ Aside0 (Hold w.heap.size w wc [(g15, 26, #[.int .i64 a1, .int .i64 y0, .int .i64 c1, .int .i64 y1, .slice Az Z1.length dz]), (g13, 78, #[.int .i64 a0, .int .i64 y0, .int .i64 c0, .int .i64 y1, vh0, .int .i64 0, .int .i64 0, .int .i64 0, .int .i64 0, .slice none 0 0]), (g8, 62, #[.int .i64 a0, .int .i64 e0, .int .i64 c0, .int .i64 f0, .int .i64 a1, .int .i64 e0, .int .i64 c1, .int .i64 f0, .int .i64 a0, .int .i64 e1, .int .i64 c0, .int .i64 f1, .int .i64 a1, .int .i64 e1, .int .i64 c1, .int .i64 f1]), (g6, 26, #[.int .i64 0, .int .i64 0, .int .i64 0, .int .i64 0, .slice none 0 0]), (g4, 23, #[.int .i64 x0, .int .i64 y0, .int .i64 x1, .int .i64 y1]), (g3, 59, #[.int .i64 a0, .int .i64 e0, .int .i64 c0, .int .i64 f0, .slice A0 D0.length d0, .int .i64 a1, .int .i64 e0, .int .i64 c1, .int .i64 f0, .slice A1 D1.length d1, .int .i64 a0, .int .i64 e1, .int .i64 c0, .int .i64 f1, .slice A2 D2.length d2, .int .i64 a1, .int .i64 e1, .int .i64 c1, .int .i64 f1, .slice A3 D3.length d3])] [(.slice Az Z1.length dz, Z1), (vh0, H0)]))
    case first =>
     replace K := Aside0.mk (K.out.drew)
     refine start_ (n := 16) (S := fun w' => w'.cell? ⟨g8, 4, none⟩ = some (.int .i64 a1) ∧ w'.cell? ⟨g4, 1, none⟩ = some (.int .i64 y0) ∧ w'.cell? ⟨g8, 6, none⟩ = some (.int .i64 c1) ∧ w'.cell? ⟨g4, 3, none⟩ = some (.int .i64 y1)) (ds := [15]) #[false, false, false, false, false, false, false, false, false, false, false, false, false, false, false, false] (by kernel_rfl) rfl rfl ⟨K.out.cell 1 rfl 4 rfl, K.out.cell 3 rfl 1 rfl, K.out.cell 1 rfl 6 rfl, K.out.cell 3 rfl 3 rfl⟩ (fun hHeld0 => ?_)
     generalize hw2 : wr.drew = w2 at *
     clear hw2
     have hHeld := Aside0.mk hHeld0
     clear hHeld0
     refine pT (i := 0) (N := some 76) ?_
     refine pT (i := 1) (N := some 77) ?_
     refine pT (i := 2) (N := some 78) ?_
     refine tT (i := 3) (N := some 79) (v := ?_) hHeld.out ?_
     refine pT (i := 4) (N := some 80) ?_
     refine tT (i := 5) (N := some 81) (v := ?_) hHeld.out ?_
     refine pT (i := 6) (N := some 82) ?_
     refine pT (i := 7) (N := some 83) ?_
     refine pT (i := 8) (N := some 84) ?_
     refine tT (i := 9) (N := some 85) (v := ?_) hHeld.out ?_
     refine pT (i := 10) (N := some 86) ?_
     refine tT (i := 11) (N := some 87) (v := ?_) hHeld.out ?_
     refine pT (i := 12) (N := some 88) ?_
     refine two_ (i := 13) (j := 14) (Ni := some 89) (Nj := some 15) #[true, true, true, true, true, true, true, true, true, true, true, true, true, true, false, false] #[true, true, true, true, true, true, true, true, true, true, true, true, true, false, true, false] rfl rfl rfl rfl (by kernel_rfl) (by decide) (by decide) (fun KC hK => ?_) (fun KC hK => ?_)
     ·skip
      refine goes_ Try.func60 (by kernel_rfl) rfl #[.agg #[.int .i64 a1, .int .i64 y0, .int .i64 c1, .int .i64 y1]] (by rfl) rfl rfl (by simp only [List.map_toArray, List.map_cons, List.map_nil]; rfl) ?_
      refine (dwt_empty.calls a1 y0 c1 y1 a1 y0 c1 y1 Z1 _ HE1.out).mono ?_
      rintro _ w3 ⟨vz, rfl, hR, b⟩
      obtain ⟨Az, dz, rfl⟩ := Kd.R_slice hR
      refine ⟨_, rfl, ?_⟩
      replace K := Aside0.mk (K.out.add (below_size K.out.below) hR b)
      clear b hR hHeld
      refine hK.out _ _ ⟨K.out.cell 1 rfl 4 rfl, K.out.cell 3 rfl 1 rfl, K.out.cell 1 rfl 6 rfl, K.out.cell 3 rfl 3 rfl⟩ (fun hHeld0 => ?_)
      have hHeld := Aside0.mk hHeld0
      clear hHeld0
      clear hK KC
      refine nT ?_
      refine one_ (i := 14) (N := some 15) #[true, true, true, true, true, true, true, true, true, true, true, true, true, true, true, false] rfl rfl (by kernel_rfl) (by decide) (fun KC hK => ?_)
      refine box_step ?hg (N := 15) ?hd (cs := #[.int .i64 0, .int .i64 0, .int .i64 0, .int .i64 0, .slice none 0 0]) (t := 26) ?hr ?_
      case hd => rfl
      case hg => rfl
      case hr => first | (go_simp; done) | (go_simp; rfl)
      intro g15 hg w4 hbox hb
      replace K := Aside0.mk (K.out.box (below_size K.out.below) hg hbox hb trivial)
      clear hg hbox hb hHeld
      refine hK.out _ _ ⟨K.out.cell 2 rfl 4 rfl, K.out.cell 4 rfl 1 rfl, K.out.cell 2 rfl 6 rfl, K.out.cell 4 rfl 3 rfl⟩ (fun hHeld0 => ?_)
      have hHeld := Aside0.mk hHeld0
      clear hHeld0
      clear hK KC
      refine nT ?_
      refine last_ (i := 15) (N := none) #[true, true, true, true, true, true, true, true, true, true, true, true, true, true, true, true] rfl rfl (by kernel_rfl) (by decide) (fun KC hK => ?_)
      refine store_step (cs := #[.int .i64 a1, .int .i64 y0, .int .i64 c1, .int .i64 y1, .slice Az Z1.length dz]) (by rfl) rfl 26 (.tmp 15) (.tmp 89) rfl rfl (by kernel_rfl) (K.out.get 0 rfl) rfl rfl (by first | (kernel_rfl) | (simp [Value.oneCell'])) ?_
      intro WS hs
      refine hK.out _ _ ?_
      replace K := Aside0.mk (K.out.stored 0 rfl hs)
      clear hK KC hs hHeld
      refine done_ (by kernel_rfl) ?_
      go_wp2
      go_meet
      case rel => exact ⟨_, _, _, rfl, ⟨K.out⟩⟩
     ·skip
      refine box_step ?hg (N := 15) ?hd (cs := #[.int .i64 0, .int .i64 0, .int .i64 0, .int .i64 0, .slice none 0 0]) (t := 26) ?hr ?_
      case hd => rfl
      case hg => rfl
      case hr => first | (go_simp; done) | (go_simp; rfl)
      intro g15 hg w4 hbox hb
      replace K := Aside0.mk (K.out.box (below_size K.out.below) hg hbox hb trivial)
      clear hg hbox hb hHeld
      refine hK.out _ _ ⟨K.out.cell 2 rfl 4 rfl, K.out.cell 4 rfl 1 rfl, K.out.cell 2 rfl 6 rfl, K.out.cell 4 rfl 3 rfl⟩ (fun hHeld0 => ?_)
      have hHeld := Aside0.mk hHeld0
      clear hHeld0
      clear hK KC
      refine nT ?_
      refine one_ (i := 13) (N := some 89) #[true, true, true, true, true, true, true, true, true, true, true, true, true, true, true, false] rfl rfl (by kernel_rfl) (by decide) (fun KC hK => ?_)
      refine goes_ Try.func60 (by kernel_rfl) rfl #[.agg #[.int .i64 a1, .int .i64 y0, .int .i64 c1, .int .i64 y1]] (by rfl) rfl rfl (by simp only [List.map_toArray, List.map_cons, List.map_nil]; rfl) ?_
      refine (dwt_empty.calls a1 y0 c1 y1 a1 y0 c1 y1 Z1 _ HE1.out).mono ?_
      rintro _ w3 ⟨vz, rfl, hR, b⟩
      obtain ⟨Az, dz, rfl⟩ := Kd.R_slice hR
      refine ⟨_, rfl, ?_⟩
      replace K := Aside0.mk (K.out.add (below_size K.out.below) hR b)
      clear b hR hHeld
      refine hK.out _ _ ⟨K.out.cell 2 rfl 4 rfl, K.out.cell 4 rfl 1 rfl, K.out.cell 2 rfl 6 rfl, K.out.cell 4 rfl 3 rfl⟩ (fun hHeld0 => ?_)
      have hHeld := Aside0.mk hHeld0
      clear hHeld0
      clear hK KC
      refine nT ?_
      refine last_ (i := 15) (N := none) #[true, true, true, true, true, true, true, true, true, true, true, true, true, true, true, true] rfl rfl (by kernel_rfl) (by decide) (fun KC hK => ?_)
      refine store_step (cs := #[.int .i64 a1, .int .i64 y0, .int .i64 c1, .int .i64 y1, .slice Az Z1.length dz]) (by rfl) rfl 26 (.tmp 15) (.tmp 89) rfl rfl (by kernel_rfl) (K.out.get 0 rfl) rfl rfl (by first | (kernel_rfl) | (simp [Value.oneCell'])) ?_
      intro WS hs
      refine hK.out _ _ ?_
      replace K := Aside0.mk (K.out.stored 0 rfl hs)
      clear hK KC hs hHeld
      refine done_ (by kernel_rfl) ?_
      go_wp2
      go_meet
      case rel => exact ⟨_, _, _, rfl, ⟨K.out⟩⟩
    case rest =>
    obtain ⟨g15, Az, dz, rfl, K⟩ := hcut
    have q0 : wc.cell? ⟨g15, 0, none⟩ = some (.int .i64 a1) := K.out.cell 0 rfl 0 rfl
    go_wp2
    clear q0 HE1
    go_loopg [16] k (fun kq v16 w' => ∃ (x : Int) (E : List Int), v16 = .int .i64 x ∧ Aside0 (a1 ≤ x) ∧ Aside0 (mcolsF kk ks a1 c1 y0 D1 D3 kq x E = some H1) ∧ Aside0 (Hold w.heap.size w w' [(g15, 26, #[.int .i64 a1, .int .i64 y0, .int .i64 c1, .int .i64 y1, .slice Az Z1.length dz]), (g13, 78, #[.int .i64 a0, .int .i64 y0, .int .i64 c0, .int .i64 y1, vh0, .int .i64 0, .int .i64 0, .int .i64 0, .int .i64 0, .slice none 0 0]), (g8, 62, #[.int .i64 a0, .int .i64 e0, .int .i64 c0, .int .i64 f0, .int .i64 a1, .int .i64 e0, .int .i64 c1, .int .i64 f0, .int .i64 a0, .int .i64 e1, .int .i64 c0, .int .i64 f1, .int .i64 a1, .int .i64 e1, .int .i64 c1, .int .i64 f1]), (g6, 26, #[.int .i64 0, .int .i64 0, .int .i64 0, .int .i64 0, .slice none 0 0]), (g4, 23, #[.int .i64 x0, .int .i64 y0, .int .i64 x1, .int .i64 y1]), (g3, 59, #[.int .i64 a0, .int .i64 e0, .int .i64 c0, .int .i64 f0, .slice A0 D0.length d0, .int .i64 a1, .int .i64 e0, .int .i64 c1, .int .i64 f0, .slice A1 D1.length d1, .int .i64 a0, .int .i64 e1, .int .i64 c0, .int .i64 f1, .slice A2 D2.length d2, .int .i64 a1, .int .i64 e1, .int .i64 c1, .int .i64 f1, .slice A3 D3.length d3])] [(.slice Az Z1.length dz, E), (vh0, H0)]))
    case atStart => exact ⟨a1, Z1, rfl, ⟨Int.le_refl _⟩, HM1, ⟨K.out⟩⟩
    case round =>
    clear K HM1
    obtain ⟨x, E, rfl, HX0, HX, K⟩ := hrel
    cases gk with
    | zero => exact absurd HX.out (by simp [mcolsF])
    | succ kq =>
    have hs := HX.out
    clear HX
    rw [mcolsF.eq_2] at hs
    have f2 : wr.cell? ⟨g15, 2, none⟩ = some (.int .i64 c1) := K.out.cell 0 rfl 2 rfl
    by_cases hi : x < c1
    ·rw [if_pos hi] at hs
     have hb0 : decide (x < c1) = true := decide_eq_true hi
     obtain ⟨lo, hcol0, hs⟩ := Option.bind_eq_some_iff.mp hs
     obtain ⟨hi_, hcol1, hs⟩ := Option.bind_eq_some_iff.mp hs
     by_cases hbd : lo.length + hi_.length ≤ 4096 ∧ cntE y0 ((lo.length + hi_.length : Nat) : Int) = (lo.length : Int) ∧ lift_bounded.f ks lo 1125899906842624 = some true ∧ lift_bounded.f ks hi_ 1125899906842624 = some true
     rotate_left
     ·rw [if_neg hbd] at hs
      cases hs
     rw [if_pos hbd] at hs
     obtain ⟨z, hz, hs⟩ := Option.bind_eq_some_iff.mp hs
     obtain ⟨E1, hE1, hs⟩ := Option.bind_eq_some_iff.mp hs
     have HX := Aside0.mk hs
     have HCOL1 := Aside0.mk hcol0
     have HCOL3 := Aside0.mk hcol1
     have HBD := Aside0.mk hbd
     have HZ := Aside0.mk hz
     have HE1_ := Aside0.mk hE1
     have HXI := Aside0.mk (And.intro HX0.out hi)
     clear hs hcol0 hcol1 hbd hz hE1 hi HX0
     have hwx : wrap64 (x + 1) = x + 1 := by have := HXI.out; have := HW1.out.1; unfold wrap64; omega
     go_wp2_with (first
      | ((with_reducible refine gate_dst (N := 103) rfl ?_); refine load_mid_ev (i := 5) (cs := #[.int .i64 a1, .int .i64 e0, .int .i64 c1, .int .i64 f0, .slice A1 D1.length d1]) rfl 26 (.tmp 102) rfl rfl (K.out.get 5 rfl) (fun j v hj => by rcases j with _ | _ | _ | _ | _ | j <;> first | exact hj | (simp at hj)) Try.underlying26 rfl rfl ?_)
      | (go_at_call 62; (with_reducible refine (plane_Column.good ks a1 e0 c1 f0 A1 d1 D1 x lo _ (Kd.C_below HR1.out K.out.below) HC1.out HV1.out HXI.out.1 HXI.out.2 HCOL1.out).mono ?_); rintro _ w91 ⟨vc, rfl, hR, b⟩; obtain ⟨C1, q1, rfl⟩ := Kd.R_slice hR; have HRW1 := Aside0.mk hR; replace K := Aside0.mk (K.out.call (below_size K.out.below) b); clear hR; clear b f2)
      | ((with_reducible refine gate_dst (N := 112) rfl ?_); refine load_mid_ev (i := 15) (cs := #[.int .i64 a1, .int .i64 e1, .int .i64 c1, .int .i64 f1, .slice A3 D3.length d3]) rfl 26 (.tmp 111) rfl rfl (K.out.get 5 rfl) (fun j v hj => by rcases j with _ | _ | _ | _ | _ | j <;> first | exact hj | (simp at hj)) Try.underlying26 rfl rfl ?_)
      | (go_at_call 62; (with_reducible refine (plane_Column.good ks a1 e1 c1 f1 A3 d3 D3 x hi_ _ (Kd.C_below HR3.out K.out.below) HC3.out HV3.out HXI.out.1 HXI.out.2 HCOL3.out).mono ?_); rintro _ w93 ⟨vc, rfl, hR, b⟩; obtain ⟨C3, q3, rfl⟩ := Kd.R_slice hR; have HRW3 := Aside0.mk hR; replace K := Aside0.mk (K.out.call (below_size K.out.below) b); clear hR; replace HRW1 := Aside0.mk (Kd.R_below HRW1.out b); clear b; have f1 : w93.cell? ⟨g4, 1, none⟩ = some (.int .i64 y0) := K.out.cell 4 rfl 1 rfl; have HLT := Aside0.mk (fun k hk => Kd.R_lt (K.out.rowAt 0 rfl) k hk))
      | (go_at_call 67; (with_reducible refine (lift_Inverse.good ks ks kk C1 q1 lo C3 q3 hi_ y0 z _ (Kd.R_reads' HRW1.out).2.2 (Kd.R_reads' HRW1.out).2.1 (Kd.R_reads' HRW3.out).2.2 (Kd.R_reads' HRW3.out).2.1 HKK.out.1 HKK.out.2 HY01.out.1 (by have := HY01.out; omega) HBD.out.1 HBD.out.2.1 HBD.out.2.2.1 HBD.out.2.2.2 HZ.out).mono ?_); rintro _ w67 ⟨vz, rfl, hR, b⟩; obtain ⟨Cz, qz, rfl⟩ := Kd.R_slice hR; have HRZ := Aside0.mk hR; replace K := Aside0.mk (K.out.call (below_size K.out.below) b); clear b hR f1 HRW1 HRW3)
      | (go_at_call 63; refine (setColumn.hold (o := 0) (i := 0) (j := 0) K.out rfl rfl rfl rfl rfl HRZ.out HLT.out HE1_.out).mono ?_; rintro _ w63 ⟨rfl, hH, hK⟩; clear K; have K := Aside0.mk hH; clear hH hK HRZ HLT))
     go_roundg kq
     case measure => omega
     case rel => exact ⟨x + 1, E1, by rw [hwx], ⟨by have := HXI.out; omega⟩, HX, ⟨K.out⟩⟩
    ·rw [if_neg hi] at hs
     have hb0 : decide (x < c1) = false := decide_eq_false hi
     obtain rfl := Option.some.inj hs
     clear hs hi HX0
     go_wp2_with (first
      | ((with_reducible refine gate_dst (N := 134) rfl ?_); refine load_ev rfl 26 (.tmp 15) rfl rfl (K.out.get 0 rfl) Try.underlying26 rfl ?_)
      | ((with_reducible refine gate_store (t := 26) (p := 135) (v := .tmp 134) rfl ?_); refine store_mid_ev (cs := #[.int .i64 a1, .int .i64 y0, .int .i64 c1, .int .i64 y1, .slice Az Z1.length dz]) rfl rfl 26 (.tmp 135) (.tmp 134) rfl rfl (by kernel_rfl) (K.out.get 1 rfl) (Nat.le_of_ble_eq_true rfl) rfl (by first | (kernel_rfl) | (simp [Value.oneCell'])) (new := #[.int .i64 a0, .int .i64 y0, .int .i64 c0, .int .i64 y1, vh0, .int .i64 a1, .int .i64 y0, .int .i64 c1, .int .i64 y1, (.slice Az Z1.length dz)]) rfl ?_; intro wS hs; replace K := Aside0.mk (K.out.stored 1 rfl hs); clear hs))
     go_roundg (0)
     case measure => omega
     case rel => exact ⟨2, rfl, by omega, .inr (.inr ⟨rfl, vh0, _, ⟨K.out.tl⟩⟩)⟩
   ·have hb0 : decide (((2 : Nat) : Int) < 2) = false := rfl
    obtain ⟨B0, b0, rfl⟩ := Kd.R_slice (K.out.rowAt 1 rfl)
    obtain ⟨B1, b1, rfl⟩ := Kd.R_slice (K.out.rowAt 0 rfl)
    go_wp2_with (first
     | ((with_reducible refine gate_dst (N := 137) rfl ?_); refine load_ev rfl 23 (.tmp 4) rfl rfl (K.out.get 3 rfl) Try.underlying23 rfl ?_)
     | ((with_reducible refine gate_dst (N := 23) rfl ?_); refine bT (N := 23) (#[.int .i64 0, .int .i64 0, .int .i64 0, .int .i64 0, .slice none 0 0]) 26 ?_; intro g23 hg W23 hbox hb; replace K := Aside0.mk (K.out.box (below_size K.out.below) hg hbox hb trivial); clear hg hbox hb)
     | ((with_reducible refine gate_store (t := 26) (p := 23) (v := .tmp 138) rfl ?_); refine store_ev rfl rfl 26 (.tmp 23) (.tmp 138) rfl rfl rfl (K.out.get 0 rfl) rfl rfl (by first | (kernel_rfl) | (simp [Value.oneCell'])) ?_; intro w23s hs; replace K := Aside0.mk (K.out.stored 0 rfl hs); clear hs; have f1 : w23s.cell? ⟨g4, 1, none⟩ = some (.int .i64 y0) := K.out.cell 4 rfl 1 rfl))
    clear hb0 hn f1
    replace K := Aside0.mk (K.out.add (below_size K.out.below) (Kd.R_nil _ _ _ _ (fun _ => True)) (Below.refl _ _))
    go_loopg [24] k (fun kq v24 w' => ∃ (y : Int) (P : List Int) (A9 : Option Addr) (d9 : Nat), v24 = .int .i64 y ∧ Aside0 (y0 ≤ y) ∧ Aside0 (mrowsF kk ks (c0 - a0) (c1 - a1) x0 y0 y1 H0 H1 kq y P = some G) ∧ Aside0 (Hold w.heap.size w w' [(g23, 26, #[.int .i64 x0, .int .i64 y0, .int .i64 x1, .int .i64 y1, .slice A9 P.length d9]), (g13, 78, #[.int .i64 a0, .int .i64 y0, .int .i64 c0, .int .i64 y1, .slice B0 H0.length b0, .int .i64 a1, .int .i64 y0, .int .i64 c1, .int .i64 y1, .slice B1 H1.length b1]), (g8, 62, #[.int .i64 a0, .int .i64 e0, .int .i64 c0, .int .i64 f0, .int .i64 a1, .int .i64 e0, .int .i64 c1, .int .i64 f0, .int .i64 a0, .int .i64 e1, .int .i64 c0, .int .i64 f1, .int .i64 a1, .int .i64 e1, .int .i64 c1, .int .i64 f1]), (g6, 26, #[.int .i64 0, .int .i64 0, .int .i64 0, .int .i64 0, .slice none 0 0]), (g4, 23, #[.int .i64 x0, .int .i64 y0, .int .i64 x1, .int .i64 y1]), (g3, 59, #[.int .i64 a0, .int .i64 e0, .int .i64 c0, .int .i64 f0, .slice A0 D0.length d0, .int .i64 a1, .int .i64 e0, .int .i64 c1, .int .i64 f0, .slice A1 D1.length d1, .int .i64 a0, .int .i64 e1, .int .i64 c0, .int .i64 f1, .slice A2 D2.length d2, .int .i64 a1, .int .i64 e1, .int .i64 c1, .int .i64 f1, .slice A3 D3.length d3])] [(.slice A9 P.length d9, P), (.slice B1 H1.length b1, H1), (.slice B0 H0.length b0, H0)]))
    case atStart => exact ⟨y0, [], none, 0, rfl, ⟨Int.le_refl _⟩, HROW, K⟩
    case round =>
    clear K HROW
    obtain ⟨y, P, A9, d9, rfl, HY0, HX, K⟩ := hrel
    cases gk with
    | zero => exact absurd HX.out (by simp [mrowsF])
    | succ kq =>
    have hs := HX.out
    clear HX
    rw [mrowsF.eq_2] at hs
    have p3 : wr.cell? ⟨g4, 3, none⟩ = some (.int .i64 y1) := K.out.cell 4 rfl 3 rfl
    by_cases hi : y < y1
    ·rw [if_pos hi] at hs
     have hb0 : decide (y < y1) = true := decide_eq_true hi
     obtain ⟨lo, hlo⟩ : ∃ r, r = List.take (c0 - a0).toNat (List.drop ((y - y0) * (c0 - a0)).toNat H0) := ⟨_, rfl⟩
     obtain ⟨hi_, hhi⟩ : ∃ r, r = List.take (c1 - a1).toNat (List.drop ((y - y0) * (c1 - a1)).toNat H1) := ⟨_, rfl⟩
     rw [← hlo, ← hhi] at hs
     have HRE0 := Aside0.mk hlo
     have HRE1 := Aside0.mk hhi
     clear hlo hhi
     by_cases hbd : lo.length + hi_.length ≤ 4096 ∧ cntE x0 ((lo.length + hi_.length : Nat) : Int) = (lo.length : Int) ∧ lift_bounded.f ks lo 1125899906842624 = some true ∧ lift_bounded.f ks hi_ 1125899906842624 = some true
     rotate_left
     ·rw [if_neg hbd] at hs
      cases hs
     rw [if_pos hbd] at hs
     obtain ⟨z, hz, hs⟩ := Option.bind_eq_some_iff.mp hs
     by_cases hlim : P.length + z.length ≤ 2097152
     rotate_left
     ·rw [if_neg hlim] at hs
      cases hs
     rw [if_pos hlim] at hs
     obtain ⟨P2, hP2⟩ : ∃ P2, P2 = P ++ z := ⟨_, rfl⟩
     rw [← hP2] at hs
     have HP2 := Aside0.mk hP2
     clear hP2
     have HX := Aside0.mk hs
     have HBD := Aside0.mk hbd
     have HZ := Aside0.mk hz
     have HLIM := Aside0.mk hlim
     have HYI := Aside0.mk (And.intro HY0.out hi)
     clear hs hbd hz hlim hi HY0
     have hwy : wrap64 (y + 1) = y + 1 := by have := HYI.out; have := HY01.out; unfold wrap64; omega
     go_wp2_with (first
      | ((with_reducible refine gate_dst (N := 149) rfl ?_); refine load_mid_ev (i := 0) (cs := #[.int .i64 a0, .int .i64 y0, .int .i64 c0, .int .i64 y1, .slice B0 H0.length b0]) rfl 26 (.tmp 148) rfl rfl (K.out.get 1 rfl) (fun j v hj => by rcases j with _ | _ | _ | _ | _ | j <;> first | exact hj | (simp at hj)) Try.underlying26 rfl rfl ?_)
      | (go_at_call 58; (with_reducible refine (plane_Row.good a0 y0 c0 y1 B0 b0 H0 y _ (K.out.readAt 2 rfl).2.2 (K.out.readAt 2 rfl).2.1 HW0.out HYI.out.1 HYI.out.2).mono ?_); rintro _ w580 ⟨vc, rfl, hR, b⟩; rw [← HRE0.out] at hR; obtain ⟨C0, q0, rfl⟩ := Kd.R_slice hR; have HRW0 := Aside0.mk hR; replace K := Aside0.mk (K.out.call (below_size K.out.below) b); clear hR b p3)
      | ((with_reducible refine gate_dst (N := 156) rfl ?_); refine load_mid_ev (i := 5) (cs := #[.int .i64 a1, .int .i64 y0, .int .i64 c1, .int .i64 y1, .slice B1 H1.length b1]) rfl 26 (.tmp 155) rfl rfl (K.out.get 1 rfl) (fun j v hj => by rcases j with _ | _ | _ | _ | _ | j <;> first | exact hj | (simp at hj)) Try.underlying26 rfl rfl ?_)
      | (go_at_call 58; (with_reducible refine (plane_Row.good a1 y0 c1 y1 B1 b1 H1 y _ (K.out.readAt 1 rfl).2.2 (K.out.readAt 1 rfl).2.1 HW1.out HYI.out.1 HYI.out.2).mono ?_); rintro _ w581 ⟨vc, rfl, hR, b⟩; rw [← HRE1.out] at hR; obtain ⟨C1, q1, rfl⟩ := Kd.R_slice hR; have HRW1 := Aside0.mk hR; replace K := Aside0.mk (K.out.call (below_size K.out.below) b); clear hR; replace HRW0 := Aside0.mk (Kd.R_below HRW0.out b); clear b; have f0_ : w581.cell? ⟨g4, 0, none⟩ = some (.int .i64 x0) := K.out.cell 4 rfl 0 rfl)
      | (go_at_call 67; (with_reducible refine (lift_Inverse.good ks ks kk C0 q0 lo C1 q1 hi_ x0 z _ (Kd.R_reads' HRW0.out).2.2 (Kd.R_reads' HRW0.out).2.1 (Kd.R_reads' HRW1.out).2.2 (Kd.R_reads' HRW1.out).2.1 HKK.out.1 HKK.out.2 HX01.out.1 (by have := HX01.out; omega) HBD.out.1 HBD.out.2.1 HBD.out.2.2.1 HBD.out.2.2.2 HZ.out).mono ?_); rintro _ w67 ⟨vz, rfl, hR, b⟩; obtain ⟨Cz, qz, rfl⟩ := Kd.R_slice hR; have HRZ := Aside0.mk hR; replace K := Aside0.mk (K.out.call (below_size K.out.below) b); clear b hR f0_ HRW0 HRW1; have f4 : w67.cell? ⟨g23, 4, none⟩ = some (.slice A9 P.length d9) := K.out.cell 0 rfl 4 rfl)
      | ((with_reducible refine gate_builtin (b := .append) (xs := #[.tmp 175, .tmp 176]) rfl ?_); at_builtin; refine Kd.R_append_rows (Kd.int .i64) (w0 := w) w.heap.size rfl (.tmp 175) (.tmp 176) 24 3 (.int .i64 0) 8 rfl Try.underlying24 info3 rfl (by decide) (by omega) (.slice A9 P.length d9) P z Cz z.length qz (fun _ => True) (fun _ => False) rfl rfl (Kd.R_mono (K.out.rowAt 0 rfl) (fun _ _ => trivial)) (Kd.R_reads' HRZ.out).2.2 (fun _ _ h => h) (fun _ h => h.elim) (fun _ _ => trivial) K.out.below (below_size K.out.below) (by have := HLIM.out; simp; omega) ?_; intro v0 w3 ho hb hg hat; rw [← HP2.out] at ho; obtain ⟨A8, d8, rfl⟩ := Kd.R_slice ho; replace K := Aside0.mk (K.out.grown (i := 0) rfl ho hb hg hat); clear HRZ ho hb hg hat f4)
      | ((with_reducible refine gate_store (t := 24) (p := 178) (v := .tmp 177) rfl ?_); refine store_slice_ev rfl rfl (.tmp 178) (.tmp 177) rfl rfl rfl (K.out.get 0 rfl) (Nat.le_of_ble_eq_true rfl) (new := #[.int .i64 x0, .int .i64 y0, .int .i64 x1, .int .i64 y1, .slice A8 P2.length d8]) rfl ?_; intro W178 hs; replace K := Aside0.mk (K.out.stored 0 rfl hs); clear hs))
     go_roundg kq
     case measure => omega
     case rel => exact ⟨y + 1, P2, A8, d8, by rw [hwy], ⟨by have := HYI.out; omega⟩, HX, ⟨K.out⟩⟩
    ·rw [if_neg hi] at hs
     have hb0 : decide (y < y1) = false := decide_eq_false hi
     obtain rfl := Option.some.inj hs
     clear hs hi HY0
     go_wp2_with (first
      | ((with_reducible refine gate_dst (N := 179) rfl ?_); refine load_ev rfl 26 (.tmp 23) rfl rfl (K.out.get 0 rfl) Try.underlying26 rfl ?_)
      | ((with_reducible refine gate_store (t := 26) (p := 6) (v := .tmp 179) rfl ?_); refine store_ev rfl rfl 26 (.tmp 6) (.tmp 179) rfl rfl rfl (K.out.get 3 rfl) rfl rfl (by first | (kernel_rfl) | (simp [Value.oneCell'])) ?_; intro W8 hs; replace K := Aside0.mk (K.out.stored 3 rfl hs); clear hs))
     refine bodyPost_ret (results_ct rfl _ _ g6 26 _ (0, 0) _ rfl (K.out.get 3 rfl) Try.underlying26 rfl (by kernel_rfl)) rfl ?_
     exact ⟨_, rfl, (K.out.noBlk).pick [0] (by decide) rfl⟩
end Go.Proofs.Ytcnpekpgghppnaa.Q
namespace Go.Proofs.Ytcnpekpgghppnaa.Q
open Go.RowKit Go.Proofs.YtcnpekpgghppnaaW.PrintWords Go.Proofs.YtcnpekpgghppnaaW.PrintLast Go.Proofs.YtcnpekpgghppnaaW.PrintMore
attribute [local go_sem] max2_int min2_int max_two min_two max_three min_three max_four min_four
set_option linter.unusedVariables false
set_option linter.unusedSimpArgs false
def pyramid_exceeds.l0 : Nat → Int → List Int → Int → Int → Option (Bool)
 | 0, _, _, _, _ => none
 | k + 1, x1, x7, x8, x9 => if x9 < x8 then (if 0 ≤ x9 then (if x9 < (x7.length : Int) then (if (rd x7 x9) > x1 then (some true) else (if (rd x7 x9) < (wrap64 (-x1)) then (some true) else (pyramid_exceeds.l0 k x1 x7 x8 (wrap64 (x9 + 1))))) else (none)) else (none)) else (some false)
def pyramid_exceeds.f (k : Nat) (l0 : List Int) (a1 : Int) : Option (Bool) := pyramid_exceeds.l0 k a1 l0 (l0.length : Int) 0
set_option maxHeartbeats 8000000 in
set_option maxRecDepth 100000 in
theorem pyramid_exceeds.calls (k : Nat) (A0 : Option Addr) (c0 : Nat) (l0 : List Int) (a1 : Int) (r : Bool) (w : World) (hr0 : Kd.C (Kd.int .i64) w A0 l0.length l0) (hc0 : l0.length ≤ c0) (h : pyramid_exceeds.f k l0 a1 = some r) :
  Calls Try.prog 28 #[.slice A0 l0.length c0, .int .i64 a1] w fun e w' => e = .returned (.bool r) ∧ Drawn0 w w' := by
 have HR0 := Aside0.mk hr0
 have HC0 := Aside0.mk hc0
 clear hr0 hc0
 have H : (pyramid_exceeds.l0 k a1 l0 (l0.length : Int) 0) = some r := h
 clear h
 have H' := Aside0.mk H
 clear H
 go_enter Try.func28, Try.ntmps28
 go_wp2
 go_loopg [9] k (fun kq v9 w' => ∃ (x9_1 : Int), v9 = .int .i64 x9_1 ∧ Aside0 (pyramid_exceeds.l0 kq a1 l0 (l0.length : Int) x9_1 = some r) ∧ Aside0 (kq ≤ k) ∧ Drawn0 w w')
 case atStart => exact ⟨(0), (by first | rfl | (simp; done) | (simp [*]; done)), H', ⟨Nat.le_refl _⟩, by repeat (first | exact Drawn0.refl _ | apply Drawn0.step)⟩
 case round =>
  clear H'
  try clear c2
  try clear p2
  obtain ⟨x9_1, rfl, HA, HK1, ⟨m1, rfl⟩⟩ := hrel
  cases gk with
  | zero => exact absurd HA.out (by simp [pyramid_exceeds.l0])
  | succ k1 =>
   have H := HA.out
   clear HA
   simp only [pyramid_exceeds.l0] at H
   by_cases c3 : x9_1 < (l0.length : Int)
   ·rw [if_pos c3] at H
    have c3b0 : decide (x9_1 < (l0.length : Int)) = true := decide_eq_true c3
    clear c3
    by_cases c4 : 0 ≤ x9_1
    ·rw [if_pos c4] at H
     have c4b0 : decide (0 ≤ x9_1) = true := decide_eq_true c4
     clear c4
     by_cases c5 : x9_1 < (l0.length : Int)
     ·rw [if_pos c5] at H
      have c5b0 : decide (x9_1 < (l0.length : Int)) = true := decide_eq_true c5
      clear c5
      by_cases c6 : (rd l0 x9_1) > a1
      ·rw [if_pos c6] at H
       have c6b0 : decide (a1 < (rd l0 x9_1)) = true := decide_eq_true c6
       clear c6
       obtain rfl := Option.some.inj H
       have p117 : 0 ≤ (x9_1 : Int) := of_decide_eq_true (by first | (with_reducible assumption) | assumption)
       have q117 : x9_1 < (l0.length : Int) := of_decide_eq_true (by first | (with_reducible assumption) | assumption)
       obtain ⟨ad117, e117, hx117_0⟩ := Kd.at_int HR0.out x9_1 p117 q117
       cases e117
       replace p117 := eq_true p117
       replace q117 := eq_true q117
       go_wp2
       go_ret
       exact ⟨by first | rfl | (simp; done) | (simp [*]; done), by repeat (first | exact Drawn0.refl _ | apply Drawn0.step)⟩
      ·rw [if_neg c6] at H
       have c6b0 : decide (a1 < (rd l0 x9_1)) = false := decide_eq_false c6
       clear c6
       by_cases c7 : (rd l0 x9_1) < (wrap64 (-a1))
       ·rw [if_pos c7] at H
        have c7b0 : decide ((rd l0 x9_1) < (wrap64 (-a1))) = true := decide_eq_true c7
        clear c7
        obtain rfl := Option.some.inj H
        have p117 : 0 ≤ (x9_1 : Int) := of_decide_eq_true (by first | (with_reducible assumption) | assumption)
        have q117 : x9_1 < (l0.length : Int) := of_decide_eq_true (by first | (with_reducible assumption) | assumption)
        obtain ⟨ad117, e117, hx117_0⟩ := Kd.at_int HR0.out x9_1 p117 q117
        cases e117
        replace p117 := eq_true p117
        replace q117 := eq_true q117
        go_wp2
        go_ret
        exact ⟨by first | rfl | (simp; done) | (simp [*]; done), by repeat (first | exact Drawn0.refl _ | apply Drawn0.step)⟩
       ·rw [if_neg c7] at H
        have c7b0 : decide ((rd l0 x9_1) < (wrap64 (-a1))) = false := decide_eq_false c7
        clear c7
        have H' := Aside0.mk H
        clear H
        have p117 : 0 ≤ (x9_1 : Int) := of_decide_eq_true (by first | (with_reducible assumption) | assumption)
        have q117 : x9_1 < (l0.length : Int) := of_decide_eq_true (by first | (with_reducible assumption) | assumption)
        obtain ⟨ad117, e117, hx117_0⟩ := Kd.at_int HR0.out x9_1 p117 q117
        cases e117
        replace p117 := eq_true p117
        replace q117 := eq_true q117
        go_wp2
        go_roundg k1
        case measure => have := HK1.out; omega
        case rel => exact ⟨(wrap64 (x9_1 + 1)), (by first | rfl | (simp; done) | (simp [*]; done)), H', ⟨by have := HK1.out; omega⟩, by repeat (first | exact Drawn0.refl _ | apply Drawn0.step)⟩
     ·rw [if_neg c5] at H
      exact absurd H (by simp)
    ·rw [if_neg c4] at H
     exact absurd H (by simp)
   ·rw [if_neg c3] at H
    have c3b0 : decide (x9_1 < (l0.length : Int)) = false := decide_eq_false c3
    clear c3
    obtain rfl := Option.some.inj H
    go_wp2
    go_ret
    exact ⟨by first | rfl | (simp; done) | (simp [*]; done), by repeat (first | exact Drawn0.refl _ | apply Drawn0.step)⟩
end Go.Proofs.Ytcnpekpgghppnaa.Q
namespace Go.Proofs.Ytcnpekpgghppnaa.Q
open Go.RowKit Go.Proofs.YtcnpekpgghppnaaW.PrintWords Go.Proofs.YtcnpekpgghppnaaW.PrintLast Go.Proofs.YtcnpekpgghppnaaW.PrintMore
set_option linter.unusedVariables false
set_option linter.unusedSimpArgs false
theorem wid {n : Int} (h0 : -4611686018427387904 ≤ n) (h1 : n ≤ 4611686018427387904) : wrap64 n = n := by unfold wrap64; omega
theorem bounded_l0 {b : Int} {xs : List Int} (hb : Bd b xs) (h0 : 0 ≤ b) (h1 : b ≤ 4611686018427387904) (hn : xs.length ≤ 4611686018427387904) : ∀ (k i : Nat), i ≤ xs.length → xs.length < k + i → lift_bounded.l0 k b xs (xs.length : Int) (i : Int) = some true
 | 0, i, hi, hk => by omega
 | k + 1, i, hi, hk => by
  rw [lift_bounded.l0.eq_2]
  by_cases c : i < xs.length
  ·have := hb.at_ h0 i
   rw [if_pos (by omega), if_pos (by omega), if_pos (by omega), if_neg (by rw [wid (by omega) (by omega)]; omega), if_neg (by omega), show wrap64 ((i : Int) + 1) = ((i + 1 : Nat) : Int) from wid (by omega) (by omega)]
   exact bounded_l0 hb h0 h1 hn k (i + 1) (by omega) (by omega)
  ·rw [if_neg (by omega)]
theorem bounded_f {b : Int} {xs : List Int} {k : Nat} (hb : Bd b xs) (h0 : 0 ≤ b) (h1 : b ≤ 4611686018427387904) (hn : xs.length < k) (hk : k ≤ 4611686018427387904) : lift_bounded.f k xs b = some true :=
 bounded_l0 hb h0 h1 (by omega) k 0 (by omega) (by omega)
theorem dexceeds_l0 {b : Int} {xs : List Int} (hb : Bd b xs) (h0 : 0 ≤ b) (h1 : b ≤ 4611686018427387904) (hn : xs.length ≤ 4611686018427387904) : ∀ (k i : Nat), i ≤ xs.length → xs.length < k + i → dwt_exceeds.l0 k b xs (xs.length : Int) (i : Int) = some false
 | 0, i, hi, hk => by omega
 | k + 1, i, hi, hk => by
  rw [dwt_exceeds.l0.eq_2]
  by_cases c : i < xs.length
  ·have := hb.at_ h0 i
   rw [if_pos (by omega), if_pos (by omega), if_pos (by omega), if_neg (by omega), if_neg (by rw [wid (by omega) (by omega)]; omega), show wrap64 ((i : Int) + 1) = ((i + 1 : Nat) : Int) from wid (by omega) (by omega)]
   exact dexceeds_l0 hb h0 h1 hn k (i + 1) (by omega) (by omega)
  ·rw [if_neg (by omega)]
theorem dexceeds_f {b : Int} {xs : List Int} {k : Nat} (hb : Bd b xs) (h0 : 0 ≤ b) (h1 : b ≤ 4611686018427387904) (hn : xs.length < k) (hk : k ≤ 4611686018427387904) : dwt_exceeds.f k xs b = some false :=
 dexceeds_l0 hb h0 h1 (by omega) k 0 (by omega) (by omega)
theorem pexceeds_l0 {b : Int} {xs : List Int} (hb : Bd b xs) (h0 : 0 ≤ b) (h1 : b ≤ 4611686018427387904) (hn : xs.length ≤ 4611686018427387904) : ∀ (k i : Nat), i ≤ xs.length → xs.length < k + i → pyramid_exceeds.l0 k b xs (xs.length : Int) (i : Int) = some false
 | 0, i, hi, hk => by omega
 | k + 1, i, hi, hk => by
  rw [pyramid_exceeds.l0.eq_2]
  by_cases c : i < xs.length
  ·have := hb.at_ h0 i
   rw [if_pos (by omega), if_pos (by omega), if_pos (by omega), if_neg (by omega), if_neg (by rw [wid (by omega) (by omega)]; omega), show wrap64 ((i : Int) + 1) = ((i + 1 : Nat) : Int) from wid (by omega) (by omega)]
   exact pexceeds_l0 hb h0 h1 hn k (i + 1) (by omega) (by omega)
  ·rw [if_neg (by omega)]
theorem pexceeds_f {b : Int} {xs : List Int} {k : Nat} (hb : Bd b xs) (h0 : 0 ≤ b) (h1 : b ≤ 4611686018427387904) (hn : xs.length < k) (hk : k ≤ 4611686018427387904) : pyramid_exceeds.f k xs b = some false :=
 pexceeds_l0 hb h0 h1 (by omega) k 0 (by omega) (by omega)
theorem Bd.mono {b c : Int} {xs : List Int} (h : Bd b xs) (hc : b ≤ c) : Bd c xs := fun v hv => by have := h v hv; omega
/-- The j-th number of the i-th row. -/
def cell (w : Nat) (D : List Int) (i j : Nat) : Int := rd D ((i * w + j : Nat) : Int)
theorem in_rows {h w i j : Nat} (hi : i < h) (hj : j < w) : i * w + j < h * w := by
 have : (i + 1) * w ≤ h * w := Nat.mul_le_mul_right w hi
 rw [Nat.succ_mul] at this
 omega
theorem ext_cell {w h : Nat} {D E : List Int} (hD : D.length = h * w) (hE : E.length = h * w) (H : ∀ i j : Nat, i < h → j < w → cell w D i j = cell w E i j) : D = E := by
 refine ext_rd (by rw [hD, hE]) fun p hp => ?_
 rw [hD] at hp
 have hw : 0 < w := by
  rcases Nat.eq_zero_or_pos w with e | e
  ·subst e; simp at hp
  ·exact e
 have h1 : p / w < h := Nat.div_lt_of_lt_mul (by rwa [Nat.mul_comm] at hp)
 have h2 := H (p / w) (p % w) h1 (Nat.mod_lt _ hw)
 unfold cell at h2
 rwa [show p / w * w + p % w = p from by rw [Nat.mul_comm]; exact Nat.div_add_mod p w] at h2
theorem place_ne {w i j a b : Nat} (hj : j < w) (hb : b < w) (h : ¬ (i = a ∧ j = b)) : i * w + j ≠ a * w + b := by
 intro e
 apply h
 have h1 : (i * w + j) % w = (a * w + b) % w := by rw [e]
 have h2 : (i * w + j) / w = (a * w + b) / w := by rw [e]
 rw [Nat.add_comm, Nat.add_comm (a * w), Nat.add_mul_mod_self_right, Nat.add_mul_mod_self_right, Nat.mod_eq_of_lt hj, Nat.mod_eq_of_lt hb] at h1
 rw [Nat.add_comm, Nat.add_comm (a * w), Nat.add_mul_div_right _ _ (by omega), Nat.add_mul_div_right _ _ (by omega), Nat.div_eq_of_lt hj, Nat.div_eq_of_lt hb] at h2
 omega
/-- A column. -/
def colOf (w h : Nat) (D : List Int) (j : Nat) : List Int := (List.range h).map fun i => cell w D i j
theorem colOf_len (w h : Nat) (D : List Int) (j : Nat) : (colOf w h D j).length = h := by simp [colOf]
theorem colOf_rd {w h : Nat} {D : List Int} {i j : Nat} (hi : i < h) : rd (colOf w h D j) (i : Int) = cell w D i j := by
 rw [rd_nat, List.getD_eq_getElem?_getD, colOf, List.getElem?_map, List.getElem?_range hi]
 rfl
theorem colOf_bd {b : Int} {w h : Nat} {D : List Int} {j : Nat} (hb : Bd b D) (h0 : 0 ≤ b) : Bd b (colOf w h D j) := Bd.of_rd fun i hi => by
 rw [colOf_len] at hi
 rw [colOf_rd hi]
 exact hb.at_ h0 _
/-- A row. -/
def rowOf (w : Nat) (D : List Int) (i : Nat) : List Int := List.take w (List.drop (i * w) D)
theorem rowOf_len {w h : Nat} {D : List Int} (hD : D.length = h * w) {i : Nat} (hi : i < h) : (rowOf w D i).length = w := by
 have : (i + 1) * w ≤ h * w := Nat.mul_le_mul_right w hi
 rw [Nat.succ_mul] at this
 rw [rowOf, List.length_take, List.length_drop, hD]
 omega
theorem rowOf_bd {b : Int} {w : Nat} {D : List Int} {i : Nat} (hb : Bd b D) : Bd b (rowOf w D i) := fun v hv => hb v (List.mem_of_mem_drop (List.mem_of_mem_take hv))
theorem rowOf_rd {w : Nat} {D : List Int} {i j : Nat} (hj : j < w) : rd (rowOf w D i) (j : Int) = cell w D i j := by
 unfold rowOf cell
 rw [rd_nat, rd_nat, List.getD_eq_getElem?_getD, List.getD_eq_getElem?_getD, List.getElem?_take_of_lt hj, List.getElem?_drop]
theorem colF_spec {w h : Nat} {D : List Int} (hD : D.length = h * w) (hm : h * w ≤ 1048576) (hw : w ≤ 4096) (hh : h ≤ 4096) {j : Nat} (hj : j < w) :
  ∀ (k i : Nat) (acc : List Int), i ≤ h → h < k + i → acc.length = i → colF (w : Int) D k ((i * w + j : Nat) : Int) acc = some (acc ++ ((List.range h).drop i).map fun i => cell w D i j)
 | 0, i, acc, h1, h2, h3 => by omega
 | k + 1, i, acc, h1, h2, h3 => by
  rw [colF.eq_2]
  by_cases c : i < h
  ·have hp := in_rows c hj
   have e : (i + 1) * w = i * w + w := Nat.succ_mul i w
   rw [if_pos (by omega), if_pos (by omega), if_pos (by omega), show wrap64 (((i * w + j : Nat) : Int) + (w : Int)) = (((i + 1) * w + j : Nat) : Int) by rw [e, wid (by omega) (by omega)]; omega,
    colF_spec hD hm hw hh hj k (i + 1) _ (by omega) (by omega) (by simp [h3])]
   rw [List.append_assoc]
   congr 2
   rw [List.drop_eq_getElem_cons (l := List.range h) (i := i) (by simpa using c), List.map_cons, List.getElem_range]
   rfl
  ·obtain rfl : i = h := by omega
   rw [if_neg (by omega), List.drop_of_length_le (by simp)]
   simp
theorem colF_ok {w h : Nat} {D : List Int} (hD : D.length = h * w) (hm : h * w ≤ 1048576) (hw : w ≤ 4096) (hh : h ≤ 4096) {j k : Nat} (hj : j < w) (hk : h < k) : colF (w : Int) D k (j : Int) [] = some (colOf w h D j) := by
 have := colF_spec hD hm hw hh hj k 0 [] (by omega) (by omega) rfl
 simpa [colOf] using this
theorem setF_spec {w h : Nat} (hm : h * w ≤ 1048576) (hw : w ≤ 4096) (hh : h ≤ 4096) {x0 : Int} (h0 : 0 ≤ x0) (h1 : x0 ≤ 4096) {j : Nat} (hj : j < w) {col : List Int} (hc : col.length = h) :
  ∀ (k i : Nat) (D : List Int), D.length = h * w → i ≤ h → h < k + i → ∃ E, setF (x0 + (j : Int)) x0 (w : Int) col k (i : Int) D = some E ∧ E.length = h * w ∧ ∀ a b : Nat, a < h → b < w → cell w E a b = if b = j ∧ i ≤ a then rd col (a : Int) else cell w D a b
 | 0, i, D, hD, h1, h2 => by omega
 | k + 1, i, D, hD, h1, h2 => by
  rw [setF.eq_2]
  by_cases c : i < h
  ·have hp := in_rows c hj
   have hca : colAt (x0 + (j : Int)) x0 (w : Int) (i : Int) = ((i * w + j : Nat) : Int) := by
    unfold colAt
    rw [← Int.natCast_mul]
    generalize i * w = p at hp
    rw [wid (n := (p : Int)) (by omega) (by omega), wid (n := (p : Int) + (x0 + (j : Int))) (by omega) (by omega), wid (n := (p : Int) + (x0 + (j : Int)) - x0) (by omega) (by omega)]
    omega
   rw [if_pos (by omega), if_pos (by omega), hca]
   clear hca
   rw [if_pos (by omega), show wrap64 ((i : Int) + 1) = ((i + 1 : Nat) : Int) from wid (by omega) (by omega), Int.toNat_natCast]
   obtain ⟨E, e1, e2, e3⟩ := setF_spec hm hw hh h0 (by omega) hj hc k (i + 1) (D.set (i * w + j) (rd col (i : Int))) (by rw [List.length_set, hD]) (by omega) (by omega)
   refine ⟨E, e1, e2, fun a b ha hb => ?_⟩
   rw [e3 a b ha hb]
   by_cases q : b = j ∧ i + 1 ≤ a
   ·rw [if_pos q, if_pos ⟨q.1, by omega⟩]
   ·rw [if_neg q]
    by_cases q2 : b = j ∧ i ≤ a
    ·obtain ⟨rfl, q3⟩ := q2
     obtain rfl : a = i := by omega
     rw [if_pos ⟨rfl, Nat.le_refl _⟩]
     unfold cell
     rw [rd_set_same (by omega)]
    ·rw [if_neg q2]
     unfold cell
     rw [rd_set_ne (place_ne hj hb (by omega))]
  ·obtain rfl : i = h := by omega
   rw [if_neg (by omega)]
   exact ⟨D, rfl, hD, fun a b ha hb => by rw [if_neg (by omega)]⟩
theorem setF_ok {w h : Nat} (hm : h * w ≤ 1048576) (hw : w ≤ 4096) (hh : h ≤ 4096) {x0 : Int} (h0 : 0 ≤ x0) (h1 : x0 ≤ 4096) {j k : Nat} (hj : j < w) {col : List Int} (hc : col.length = h) {D : List Int} (hD : D.length = h * w) (hk : h < k) : ∃ E, setF (x0 + (j : Int)) x0 (w : Int) col k 0 D = some E ∧ E.length = h * w ∧ ∀ a b : Nat, a < h → b < w → cell w E a b = if b = j then rd col (a : Int) else cell w D a b := by
 obtain ⟨E, e1, e2, e3⟩ := setF_spec hm hw hh h0 h1 hj hc k 0 D hD (by omega) (by omega)
 refine ⟨E, e1, e2, fun a b ha hb => ?_⟩
 rw [e3 a b ha hb]
 by_cases q : b = j
 ·rw [if_pos ⟨q, by omega⟩, if_pos q]
 ·rw [if_neg (by omega), if_neg q]
theorem colsF_spec {kk : Int} {k w h lh hh : Nat} {x0 x1 y0 : Int} {D : List Int} {lo hi : Nat → List Int} (hx1 : x1 = x0 + (w : Int)) (h0 : 0 ≤ x0) (h1 : x1 ≤ 4096) (hD : D.length = h * w) (hm : h * w ≤ 1048576) (hh4 : h ≤ 4096) (hk : 4096 < k) (hk2 : k ≤ 1000000) (hs : lh + hh = h)
  (hb : Bd 281474976710656 D) (hf : ∀ j, j < w → fwdF kk k y0 (colOf w h D j) = some (lo j, hi j) ∧ (lo j).length = lh ∧ (hi j).length = hh) :
  ∀ (f j : Nat) (E1 E2 : List Int), j ≤ w → w < f + j → E1.length = lh * w → E2.length = hh * w → ∃ F1 F2, colsF kk k x0 x1 y0 D f (x0 + (j : Int)) E1 E2 = some (F1, F2) ∧ F1.length = lh * w ∧ F2.length = hh * w ∧ (∀ a b : Nat, a < lh → b < w → cell w F1 a b = if j ≤ b then rd (lo b) (a : Int) else cell w E1 a b) ∧ (∀ a b : Nat, a < hh → b < w → cell w F2 a b = if j ≤ b then rd (hi b) (a : Int) else cell w E2 a b)
 | 0, j, E1, E2, hj, hfj, _, _ => by omega
 | f + 1, j, E1, E2, hj, hfj, hE1, hE2 => by
  rw [colsF.eq_2]
  by_cases c : j < w
  ·have l1 : lh * w ≤ h * w := Nat.mul_le_mul_right w (by omega)
   have l2 : hh * w ≤ h * w := Nat.mul_le_mul_right w (by omega)
   obtain ⟨g1, g2, g3⟩ := hf j c
   rw [if_pos (by omega), show x1 - x0 = (w : Int) by omega, show x0 + (j : Int) - x0 = (j : Int) by omega, colF_ok hD hm (by omega) hh4 c (by omega), Option.bind_some,
    if_pos ⟨bounded_f (colOf_bd hb (by decide)) (by decide) (by decide) (by rw [colOf_len]; omega) (by omega), by rw [colOf_len]; omega⟩, g1, Option.bind_some, wid (n := (w : Int)) (by omega) (by omega)]
   obtain ⟨M1, m1, m2, m3⟩ := setF_ok (h := lh) (k := k) (by omega) (by omega) (by omega) h0 (by omega) c g2 hE1 (by omega)
   obtain ⟨M2, n1, n2, n3⟩ := setF_ok (h := hh) (k := k) (by omega) (by omega) (by omega) h0 (by omega) c g3 hE2 (by omega)
   rw [m1, Option.bind_some, n1, Option.bind_some, show x0 + (j : Int) + 1 = x0 + ((j + 1 : Nat) : Int) by omega]
   obtain ⟨F1, F2, r1, r2, r3, r4, r5⟩ := colsF_spec hx1 h0 h1 hD hm hh4 hk hk2 hs hb hf f (j + 1) M1 M2 (by omega) (by omega) m2 n2
   refine ⟨F1, F2, r1, r2, r3, fun a b ha hb' => ?_, fun a b ha hb' => ?_⟩
   ·rw [r4 a b ha hb', m3 a b ha hb']
    by_cases q : j + 1 ≤ b
    ·rw [if_pos q, if_pos (by omega)]
    ·rw [if_neg q]
     by_cases q2 : b = j
     ·rw [if_pos q2, if_pos (by omega), q2]
     ·rw [if_neg q2, if_neg (by omega)]
   ·rw [r5 a b ha hb', n3 a b ha hb']
    by_cases q : j + 1 ≤ b
    ·rw [if_pos q, if_pos (by omega)]
    ·rw [if_neg q]
     by_cases q2 : b = j
     ·rw [if_pos q2, if_pos (by omega), q2]
     ·rw [if_neg q2, if_neg (by omega)]
  ·obtain rfl : j = w := by omega
   rw [if_neg (by omega)]
   exact ⟨E1, E2, rfl, hE1, hE2, fun a b ha hb' => by rw [if_neg (by omega)], fun a b ha hb' => by rw [if_neg (by omega)]⟩
theorem mcolsF_spec {kk : Int} {k w h lh hh : Nat} {x0 x1 y0 : Int} {D D2 : List Int} {z : Nat → List Int} (hx1 : x1 = x0 + (w : Int)) (h0 : 0 ≤ x0) (h1 : x1 ≤ 4096) (hD : D.length = lh * w) (hD2 : D2.length = hh * w) (hm : h * w ≤ 1048576) (hh4 : h ≤ 4096) (hk : 4096 < k) (hk2 : k ≤ 1000000) (hs : lh + hh = h)
  (hb : Bd 1125899906842624 D) (hb2 : Bd 1125899906842624 D2) (hce : cntE y0 (h : Int) = (lh : Int)) (hf : ∀ j, j < w → invF kk k y0 (colOf w lh D j) (colOf w hh D2 j) = some (z j) ∧ (z j).length = h) :
  ∀ (f j : Nat) (E : List Int), j ≤ w → w < f + j → E.length = h * w → ∃ F, mcolsF kk k x0 x1 y0 D D2 f (x0 + (j : Int)) E = some F ∧ F.length = h * w ∧ (∀ a b : Nat, a < h → b < w → cell w F a b = if j ≤ b then rd (z b) (a : Int) else cell w E a b)
 | 0, j, E, hj, hfj, _ => by omega
 | f + 1, j, E, hj, hfj, hE => by
  rw [mcolsF.eq_2]
  by_cases c : j < w
  ·have l1 : lh * w ≤ h * w := Nat.mul_le_mul_right w (by omega)
   have l2 : hh * w ≤ h * w := Nat.mul_le_mul_right w (by omega)
   obtain ⟨g1, g2⟩ := hf j c
   rw [if_pos (by omega), show x1 - x0 = (w : Int) by omega, show x0 + (j : Int) - x0 = (j : Int) by omega, colF_ok hD (by omega) (by omega) (by omega) c (by omega), Option.bind_some, colF_ok hD2 (by omega) (by omega) (by omega) c (by omega), Option.bind_some,
    if_pos ⟨by rw [colOf_len, colOf_len]; omega, by rw [colOf_len, colOf_len, hs]; exact hce, bounded_f (colOf_bd hb (by decide)) (by decide) (by decide) (by rw [colOf_len]; omega) (by omega), bounded_f (colOf_bd hb2 (by decide)) (by decide) (by decide) (by rw [colOf_len]; omega) (by omega)⟩,
    g1, Option.bind_some, wid (n := (w : Int)) (by omega) (by omega)]
   obtain ⟨M1, m1, m2, m3⟩ := setF_ok (h := h) (k := k) (by omega) (by omega) (by omega) h0 (by omega) c g2 hE (by omega)
   rw [m1, Option.bind_some, show x0 + (j : Int) + 1 = x0 + ((j + 1 : Nat) : Int) by omega]
   obtain ⟨F, r1, r2, r4⟩ := mcolsF_spec hx1 h0 h1 hD hD2 hm hh4 hk hk2 hs hb hb2 hce hf f (j + 1) M1 (by omega) (by omega) m2
   refine ⟨F, r1, r2, fun a b ha hb' => ?_⟩
   rw [r4 a b ha hb', m3 a b ha hb']
   by_cases q : j + 1 ≤ b
   ·rw [if_pos q, if_pos (by omega)]
   ·rw [if_neg q]
    by_cases q2 : b = j
    ·rw [if_pos q2, if_pos (by omega), q2]
    ·rw [if_neg q2, if_neg (by omega)]
  ·obtain rfl : j = w := by omega
   rw [if_neg (by omega)]
   exact ⟨E, rfl, hE, fun a b ha hb' => by rw [if_neg (by omega)]⟩
theorem rowOf_app {w : Nat} {P L : List Int} {i : Nat} (h : (i + 1) * w ≤ P.length) : rowOf w (P ++ L) i = rowOf w P i := by
 rw [Nat.succ_mul] at h
 unfold rowOf
 rw [List.drop_append_of_le_length (by omega), List.take_append_of_le_length (by rw [List.length_drop]; omega)]
theorem rowOf_new {w : Nat} {P L : List Int} {i : Nat} (h : P.length = i * w) (hL : L.length = w) : rowOf w (P ++ L) i = L := by
 unfold rowOf
 rw [← h, List.drop_left, ← hL, List.take_length]
theorem rowsF_spec {kk : Int} {k w h lw hw : Nat} {x0 x1 y0 y1 : Int} {D : List Int} {lo hi : Nat → List Int} (hx1 : x1 = x0 + (w : Int)) (hy1 : y1 = y0 + (h : Int)) (hD : D.length = h * w) (hm : h * w ≤ 1048576) (hw4 : w ≤ 4096) (hk : 4096 < k) (hk2 : k ≤ 1000000) (hs : lw + hw = w)
  (hb : Bd 281474976710656 D) (hf : ∀ i, i < h → fwdF kk k x0 (rowOf w D i) = some (lo i, hi i) ∧ (lo i).length = lw ∧ (hi i).length = hw) :
  ∀ (f i : Nat) (P Q : List Int), i ≤ h → h < f + i → P.length = i * lw → Q.length = i * hw → (∀ a, a < i → rowOf lw P a = lo a ∧ rowOf hw Q a = hi a) → ∃ P' Q', rowsF kk k x0 x1 y0 y1 D f (y0 + (i : Int)) P Q = some (P', Q') ∧ P'.length = h * lw ∧ Q'.length = h * hw ∧ ∀ a, a < h → rowOf lw P' a = lo a ∧ rowOf hw Q' a = hi a
 | 0, i, P, Q, h1, h2, h3, h4, h5 => by omega
 | f + 1, i, P, Q, h1, h2, h3, h4, h5 => by
  rw [rowsF.eq_2]
  by_cases c : i < h
  ·have hr : List.take (x1 - x0).toNat (List.drop ((y0 + (i : Int) - y0) * (x1 - x0)).toNat D) = rowOf w D i := by
    rw [show x1 - x0 = (w : Int) by omega, show y0 + (i : Int) - y0 = (i : Int) by omega, ← Int.natCast_mul, Int.toNat_natCast, Int.toNat_natCast]
    rfl
   have hl := rowOf_len hD c
   obtain ⟨g1, g2, g3⟩ := hf i c
   have l1 : (i + 1) * lw ≤ h * w := Nat.mul_le_mul (by omega) (by omega)
   have l2 : (i + 1) * hw ≤ h * w := Nat.mul_le_mul (by omega) (by omega)
   have e1 : (i + 1) * lw = i * lw + lw := Nat.succ_mul _ _
   have e2 : (i + 1) * hw = i * hw + hw := Nat.succ_mul _ _
   rw [if_pos (by omega), hr, if_pos ⟨bounded_f (rowOf_bd hb) (by decide) (by decide) (by rw [hl]; omega) (by omega), by rw [hl]; omega⟩, g1, Option.bind_some, if_pos ⟨by show P.length + (lo i).length ≤ _; omega, by show Q.length + (hi i).length ≤ _; omega⟩, show y0 + (i : Int) + 1 = y0 + ((i + 1 : Nat) : Int) by omega]
   refine rowsF_spec hx1 hy1 hD hm hw4 hk hk2 hs hb hf f (i + 1) (P ++ lo i) (Q ++ hi i) (by omega) (by omega) (by rw [List.length_append]; omega) (by rw [List.length_append]; omega) fun a ha => ?_
   by_cases q : a = i
   ·subst q
    exact ⟨rowOf_new h3 g2, rowOf_new h4 g3⟩
   ·have m1 : (a + 1) * lw ≤ i * lw := Nat.mul_le_mul_right _ (by omega)
    have m2 : (a + 1) * hw ≤ i * hw := Nat.mul_le_mul_right _ (by omega)
    rw [rowOf_app (by omega), rowOf_app (by omega)]
    exact h5 a (by omega)
  ·obtain rfl : i = h := by omega
   rw [if_neg (by omega)]
   exact ⟨P, Q, rfl, h3, h4, h5⟩
theorem mrowsF_spec {kk : Int} {k w h lw hw : Nat} {w0 w1 x0 y0 y1 : Int} {H0 H1 D : List Int} (hw0 : w0 = (lw : Int)) (hw1 : w1 = (hw : Int)) (hy1 : y1 = y0 + (h : Int)) (hD : D.length = h * w) (hH0 : H0.length = h * lw) (hH1 : H1.length = h * hw) (hm : h * w ≤ 1048576) (hw4 : w ≤ 4096) (hk : 4096 < k) (hk2 : k ≤ 1000000) (hs : lw + hw = w)
  (hb : Bd 1125899906842624 H0) (hb2 : Bd 1125899906842624 H1) (hce : cntE x0 (w : Int) = (lw : Int)) (hf : ∀ i, i < h → invF kk k x0 (rowOf lw H0 i) (rowOf hw H1 i) = some (rowOf w D i)) :
  ∀ (f i : Nat), i ≤ h → h < f + i → mrowsF kk k w0 w1 x0 y0 y1 H0 H1 f (y0 + (i : Int)) (D.take (i * w)) = some D
 | 0, i, h1, h2 => by omega
 | f + 1, i, h1, h2 => by
  rw [mrowsF.eq_2]
  by_cases c : i < h
  ·have hr0 : List.take w0.toNat (List.drop ((y0 + (i : Int) - y0) * w0).toNat H0) = rowOf lw H0 i := by
    rw [hw0, show y0 + (i : Int) - y0 = (i : Int) by omega, ← Int.natCast_mul, Int.toNat_natCast, Int.toNat_natCast]
    rfl
   have hr1 : List.take w1.toNat (List.drop ((y0 + (i : Int) - y0) * w1).toNat H1) = rowOf hw H1 i := by
    rw [hw1, show y0 + (i : Int) - y0 = (i : Int) by omega, ← Int.natCast_mul, Int.toNat_natCast, Int.toNat_natCast]
    rfl
   have n0 := rowOf_len hH0 c
   have n1 := rowOf_len hH1 c
   have n2 := rowOf_len hD c
   have l1 : (i + 1) * w ≤ h * w := Nat.mul_le_mul_right w c
   have e1 : (i + 1) * w = i * w + w := Nat.succ_mul _ _
   rw [if_pos (by omega), hr0, hr1, if_pos ⟨by omega, by rw [n0, n1, hs]; exact hce, bounded_f (rowOf_bd hb) (by decide) (by decide) (by rw [n0]; omega) (by omega), bounded_f (rowOf_bd hb2) (by decide) (by decide) (by rw [n1]; omega) (by omega)⟩, hf i c, Option.bind_some,
    if_pos (by rw [List.length_take, n2]; omega), show y0 + (i : Int) + 1 = y0 + ((i + 1 : Nat) : Int) by omega]
   have : D.take (i * w) ++ rowOf w D i = D.take ((i + 1) * w) := by
    unfold rowOf
    rw [e1, List.take_add]
   rw [this]
   exact mrowsF_spec hw0 hw1 hy1 hD hH0 hH1 hm hw4 hk hk2 hs hb hb2 hce hf f (i + 1) (by omega) (by omega)
  ·obtain rfl : i = h := by omega
   rw [if_neg (by omega), ← hD, List.take_length]
/-- A plane without its memory. -/
structure Pl where
 x0 : Int
 y0 : Int
 x1 : Int
 y1 : Int
 D : List Int
def pcells (p : Value × Pl) : List Value := [.int .i64 p.2.x0, .int .i64 p.2.y0, .int .i64 p.2.x1, .int .i64 p.2.y1, p.1]
/-- The cells of a row of planes. -/
def cellsOf (l : List (Value × Pl)) : Array Value := (l.flatMap pcells).toArray
def rowsOf (l : List (Value × Pl)) : List (Value × List Int) := l.map fun p => (p.1, p.2.D)
theorem flat_len (l : List (Value × Pl)) : (l.flatMap pcells).length = 5 * l.length := by
 induction l with
 | nil => rfl
 | cons a l ih => rw [List.flatMap_cons, List.length_append, ih, List.length_cons]; show 5 + _ = _; omega
theorem cellsOf_size (l : List (Value × Pl)) : (cellsOf l).size = 5 * l.length := flat_len l
theorem flat_get {l : List (Value × Pl)} {p : Value × Pl} {i : Nat} {v : Value} (hv : (pcells p)[i]? = some v) : ∀ {j : Nat}, l[j]? = some p → (l.flatMap pcells)[5 * j + i]? = some v := by
 induction l with
 | nil => intro j h; simp at h
 | cons a l ih =>
  intro j h
  have hi : i < 5 := by
   obtain ⟨h1, _⟩ := List.getElem?_eq_some_iff.mp hv
   exact h1
  rw [List.flatMap_cons]
  cases j with
  | zero =>
   obtain rfl : a = p := by simpa using h
   rw [List.getElem?_append_left (by show _ < 5; omega), Nat.mul_zero, Nat.zero_add]
   exact hv
  | succ j =>
   rw [List.getElem?_append_right (by show 5 ≤ _; omega)]
   have := ih (j := j) (by simpa using h)
   rw [← this]
   congr 1
   show 5 * (j + 1) + i - 5 = _
   omega
theorem cellsOf_get {l : List (Value × Pl)} {p : Value × Pl} {i j : Nat} {v : Value} (h : l[j]? = some p) (hv : (pcells p)[i]? = some v) : (cellsOf l)[5 * j + i]? = some v := by
 show (l.flatMap pcells).toArray[5 * j + i]? = _
 rw [List.getElem?_toArray]
 exact flat_get hv h
theorem setA_at : ∀ (vs : List Value) (i : Nat) (c : Array Value), i + vs.length ≤ c.size → (setA c i vs).toList = c.toList.take i ++ vs ++ c.toList.drop (i + vs.length)
 | [], i, c, h => by
  rw [setA]
  simp
 | v :: vs, i, c, h => by
  have h' : i + 1 + vs.length ≤ c.size := by simp at h; omega
  rw [setA, setA_at vs (i + 1) _ (by simp; omega)]
  rw [Array.toList_setIfInBounds, List.take_succ_eq_append_getElem (by simp; omega), List.take_set_of_le (Nat.le_refl _), List.drop_set, if_pos (by omega)]
  simp
  omega
theorem flat_set {q : Value × Pl} : ∀ {l : List (Value × Pl)} {j : Nat}, j < l.length → (l.set j q).flatMap pcells = (l.flatMap pcells).take (5 * j) ++ pcells q ++ (l.flatMap pcells).drop (5 * j + 5)
 | [], j, h => by simp at h
 | a :: l, 0, h => by
  rw [List.set_cons_zero, List.flatMap_cons, List.flatMap_cons]
  simp [pcells]
 | a :: l, j + 1, h => by
  rw [List.set_cons_succ, List.flatMap_cons, List.flatMap_cons, flat_set (by simpa using h), show 5 * (j + 1) = 5 + 5 * j by omega, show 5 + 5 * j + 5 = 5 + (5 * j + 5) by omega]
  have e1 : (pcells a ++ l.flatMap pcells).take (5 + 5 * j) = pcells a ++ (l.flatMap pcells).take (5 * j) := by
   rw [List.take_append, List.take_of_length_le (by show 5 ≤ _; omega)]
   congr 2
   show 5 + 5 * j - 5 = _
   omega
  have e2 : (pcells a ++ l.flatMap pcells).drop (5 + (5 * j + 5)) = (l.flatMap pcells).drop (5 * j + 5) := by
   rw [List.drop_append, List.drop_eq_nil_of_le (by show 5 ≤ _; omega), List.nil_append]
   congr 1
   show 5 + (5 * j + 5) - 5 = _
   omega
  rw [e1, e2]
  simp
theorem cellsOf_set {l : List (Value × Pl)} {q : Value × Pl} {j : Nat} (h : j < l.length) : setA (cellsOf l) (5 * j) (pcells q) = cellsOf (l.set j q) := by
 apply Array.toList_inj.1
 rw [setA_at _ _ _ (by rw [cellsOf_size]; show _ + 5 ≤ _; omega)]
 show _ = (l.set j q).flatMap pcells
 rw [flat_set h]
 rfl
def zeroPl : Value × Pl := (.slice none 0 0, ⟨0, 0, 0, 0, []⟩)
theorem made_planes (m : Nat) : madeCells #[.int .i64 0, .int .i64 0, .int .i64 0, .int .i64 0, .slice none 0 0] (m * 5) = cellsOf (List.replicate m zeroPl) := by
 apply Array.ext_getElem?
 intro i
 by_cases hi : i < m * 5
 ·have h1 : i = 5 * (i / 5) + i % 5 := by omega
  have h2 : i / 5 < m := by omega
  have hr : (List.replicate m zeroPl)[i / 5]? = some zeroPl := by rw [List.getElem?_replicate, if_pos h2]
  have h3 : i % 5 < 5 := Nat.mod_lt _ (by decide)
  rw [show (cellsOf (List.replicate m zeroPl))[i]? = (pcells zeroPl)[i % 5]? from by
   conv => lhs; rw [h1]
   rw [cellsOf_get (v := (pcells zeroPl)[i % 5]) hr (List.getElem?_eq_getElem (by show _ < 5; exact h3)), List.getElem?_eq_getElem (by show _ < 5; exact h3)]
   rfl]
  unfold madeCells
  rw [Array.getElem?_map, Array.getElem?_range, if_pos hi]
  show some _ = _
  have : i % 5 = 0 ∨ i % 5 = 1 ∨ i % 5 = 2 ∨ i % 5 = 3 ∨ i % 5 = 4 := by omega
  rcases this with h | h | h | h | h <;> simp [h, pcells, zeroPl]
 ·rw [Array.getElem?_eq_none (by rw [size_madeCells]; omega), Array.getElem?_eq_none (by rw [cellsOf_size, List.length_replicate]; omega)]
section
variable {ops : Array Oper} {rest : List Oper} {o : Oper} {a : Act} {Q : Exit → Act → World → Prop} {W : World}
theorem make_planes_ev (hgd : o.guard = none) {N : Tmp} (_hd : o.dst = some N) (x y : Operand) (ho : o.op = .makeSlice 32 x y) (m : Nat) (hx : a.eval x = .int .i64 (m : Int)) (hy : a.eval y = .int .i64 (m : Int)) (hl : m ≤ 1000000)
  (h : ∀ g, g = W.heap.size → ∀ w1, w1.heap[g]? = some (.cells (cellsOf (List.replicate m zeroPl)) 26 (0, 0)) → Below W.heap.size W w1 → wpList Try.prog ops Q rest (a.put o.dst (.slice (some ⟨g, 0, none⟩) m m)) w1) : wpList Try.prog ops Q (o :: rest) a W := by
 obtain ⟨i0, hi, hzz⟩ := Option.map_eq_some_iff.1 info26
 simp only [Prod.mk.injEq] at hzz
 obtain ⟨hz0, hz1, hz2⟩ := hzz
 have hr := run_make (P := Try.prog) W 32 26 i0 _ Try.underlying32 hi hz0 .i64 .i64 (m : Int) (m : Int) (by omega) (by omega) (by rw [hz2]; omega) (by omega)
 simp only [Int.toNat_natCast] at hr
 rw [hz1] at hr
 have hq : (Value.agg #[(.int .i64 0), (.int .i64 0), (.int .i64 0), (.int .i64 0), (.slice none 0 0)]).cells = #[.int .i64 0, .int .i64 0, .int .i64 0, .int .i64 0, .slice none 0 0] := rfl
 rw [hq, made_planes] at hr
 refine Kd.event_run hgd (w1 := W.alloc (.cells (cellsOf (List.replicate m zeroPl)) 26)) (v := .slice (some ⟨W.heap.size, 0, none⟩) m m) ?_ (h _ rfl _ (blk_new W _) (below_alloc (Below.refl _ _) _))
 simp [execOp, ho, hx, hy, hr]
end
/-- What dwt.Split makes of a plane. -/
def SplitTo (kk x0 y0 x1 y1 : Int) (D : List Int) (a0 a1 c0 c1 e0 e1 f0 f1 : Int) (G0 G1 G2 G3 : List Int) : Prop :=
 ∃ (k ks kn ke : Nat) (H0 H1 Z0 Z1 Z2 Z3 : List Int), (PV x0 y0 x1 y1 D) ∧ (1 ≤ kk ∧ kk ≤ 3) ∧ (dwt_known.f kn kk = some true) ∧ (dwt_exceeds.f ke D 35184372088832 = some false) ∧ (bandsC x0 y0 x1 y1 4 = #[.int .i64 a0, .int .i64 e0, .int .i64 c0, .int .i64 f0, .int .i64 a1, .int .i64 e0, .int .i64 c1, .int .i64 f0, .int .i64 a0, .int .i64 e1, .int .i64 c0, .int .i64 f1, .int .i64 a1, .int .i64 e1, .int .i64 c1, .int .i64 f1]) ∧ (rowsF kk ks x0 x1 y0 y1 D k y0 [] [] = some (H0, H1)) ∧ (PV a0 y0 c0 y1 H0) ∧ (PV a1 y0 c1 y1 H1) ∧ (dwt_empty.f  a0  e0  c0  f0 = some ( a0,  e0,  c0,  f0, Z0)) ∧ (dwt_empty.f  a1  e0  c1  f0 = some ( a1,  e0,  c1,  f0, Z1)) ∧ (dwt_empty.f  a0  e1  c0  f1 = some ( a0,  e1,  c0,  f1, Z2)) ∧ (dwt_empty.f  a1  e1  c1  f1 = some ( a1,  e1,  c1,  f1, Z3)) ∧ (colsF kk ks a0 c0 y0 H0 k a0 Z0 Z2 = some (G0, G2)) ∧ (colsF kk ks a1 c1 y0 H1 k a1 Z1 Z3 = some (G1, G3))
/-- What dwt.Merge makes of four planes. -/
def MergeTo (kk x0 y0 x1 y1 : Int) (a0 a1 c0 c1 e0 e1 f0 f1 : Int) (D0 D1 D2 D3 G : List Int) : Prop :=
 ∃ (k ks kn ke : Nat) (ar : Int) (Z0 Z1 H0 H1 : List Int), (PV a0 e0 c0 f0 D0) ∧ (dwt_exceeds.f ke D0 281474976710656 = some false) ∧ (PV a1 e0 c1 f0 D1) ∧ (dwt_exceeds.f ke D1 281474976710656 = some false) ∧ (PV a0 e1 c0 f1 D2) ∧ (dwt_exceeds.f ke D2 281474976710656 = some false) ∧ (PV a1 e1 c1 f1 D3) ∧ (dwt_exceeds.f ke D3 281474976710656 = some false) ∧ (0 ≤ x0 ∧ x0 ≤ x1 ∧ x1 ≤ 4096) ∧ (0 ≤ y0 ∧ y0 ≤ y1 ∧ y1 ≤ 4096) ∧ (rect_Valid.f x0 y0 x1 y1 = some true) ∧ (rect_Area.f x0 y0 x1 y1 = some ar) ∧ (ar ≤ 1048576) ∧ (1 ≤ kk ∧ kk ≤ 3) ∧ (dwt_known.f kn kk = some true) ∧ (bandsC x0 y0 x1 y1 4 = #[.int .i64 a0, .int .i64 e0, .int .i64 c0, .int .i64 f0, .int .i64 a1, .int .i64 e0, .int .i64 c1, .int .i64 f0, .int .i64 a0, .int .i64 e1, .int .i64 c0, .int .i64 f1, .int .i64 a1, .int .i64 e1, .int .i64 c1, .int .i64 f1]) ∧ (dwt_empty.f a0 y0 c0 y1 = some (a0, y0, c0, y1, Z0)) ∧ (mcolsF kk ks a0 c0 y0 D0 D2 k a0 Z0 = some H0) ∧ (PV a0 y0 c0 y1 H0) ∧ (dwt_empty.f a1 y0 c1 y1 = some (a1, y0, c1, y1, Z1)) ∧ (mcolsF kk ks a1 c1 y0 D1 D3 k a1 Z1 = some H1) ∧ (PV a1 y0 c1 y1 H1) ∧ (mrowsF kk ks (c0 - a0) (c1 - a1) x0 y0 y1 H0 H1 k y0 [] = some G)
theorem dwt_Split.to (kk x0 y0 x1 y1 : Int) (A : Option Addr) (c : Nat) (D G0 G1 G2 G3 : List Int) (a0 a1 c0 c1 e0 e1 f0 f1 : Int) (w : World) (hr : Kd.C (Kd.int .i64) w A D.length D) (hc : D.length ≤ c) (h : SplitTo kk x0 y0 x1 y1 D a0 a1 c0 c1 e0 e1 f0 f1 G0 G1 G2 G3) :
  Calls Try.prog 30 #[.agg #[.int .i64 x0, .int .i64 y0, .int .i64 x1, .int .i64 y1, .slice A D.length c], .int .i64 kk] w fun e w' => ∃ v0 v1 v2 v3 : Value, e = .returned (.tuple #[.agg #[.int .i64 a0, .int .i64 e0, .int .i64 c0, .int .i64 f0, v0, .int .i64 a1, .int .i64 e0, .int .i64 c1, .int .i64 f0, v1, .int .i64 a0, .int .i64 e1, .int .i64 c0, .int .i64 f1, v2, .int .i64 a1, .int .i64 e1, .int .i64 c1, .int .i64 f1, v3], .int .i64 0]) ∧ Hold w.heap.size w w' [] [(v0, G0), (v1, G1), (v2, G2), (v3, G3)] := by
 obtain ⟨k, ks, kn, ke, H0, H1, Z0, Z1, Z2, Z3, hv, hkk, hkn, hex, hbc, hrows, hv0, hv1, he0, he1, he2, he3, hs0, hs1⟩ := h
 exact dwt_Split.good k ks kn ke kk x0 y0 x1 y1 A c D H0 H1 Z0 Z1 Z2 Z3 G0 G1 G2 G3 a0 a1 c0 c1 e0 e1 f0 f1 w hr hc hv hkk hkn hex hbc hrows hv0 hv1 he0 he1 he2 he3 hs0 hs1
theorem dwt_Merge.to (kk x0 y0 x1 y1 : Int) (A0 : Option Addr) (d0 : Nat) (A1 : Option Addr) (d1 : Nat) (A2 : Option Addr) (d2 : Nat) (A3 : Option Addr) (d3 : Nat) (D0 D1 D2 D3 G : List Int) (a0 a1 c0 c1 e0 e1 f0 f1 : Int) (w : World) (hr0 : Kd.C (Kd.int .i64) w A0 D0.length D0) (hc0 : D0.length ≤ d0) (hr1 : Kd.C (Kd.int .i64) w A1 D1.length D1) (hc1 : D1.length ≤ d1) (hr2 : Kd.C (Kd.int .i64) w A2 D2.length D2) (hc2 : D2.length ≤ d2) (hr3 : Kd.C (Kd.int .i64) w A3 D3.length D3) (hc3 : D3.length ≤ d3) (h : MergeTo kk x0 y0 x1 y1 a0 a1 c0 c1 e0 e1 f0 f1 D0 D1 D2 D3 G) :
  Calls Try.prog 41 #[.agg #[.int .i64 a0, .int .i64 e0, .int .i64 c0, .int .i64 f0, .slice A0 D0.length d0, .int .i64 a1, .int .i64 e0, .int .i64 c1, .int .i64 f0, .slice A1 D1.length d1, .int .i64 a0, .int .i64 e1, .int .i64 c0, .int .i64 f1, .slice A2 D2.length d2, .int .i64 a1, .int .i64 e1, .int .i64 c1, .int .i64 f1, .slice A3 D3.length d3], .agg #[.int .i64 x0, .int .i64 y0, .int .i64 x1, .int .i64 y1], .int .i64 kk] w fun e w' => ∃ v : Value, e = .returned (.tuple #[.agg #[.int .i64 x0, .int .i64 y0, .int .i64 x1, .int .i64 y1, v], .int .i64 0]) ∧ Hold w.heap.size w w' [] [(v, G)] := by
 obtain ⟨k, ks, kn, ke, ar, Z0, Z1, H0, H1, hv0, hex0, hv1, hex1, hv2, hex2, hv3, hex3, hx01, hy01, hrv, har, hal, hkk, hkn, hbc, he0, hm0, hw0, he1, hm1, hw1, hrow⟩ := h
 exact dwt_Merge.good k ks kn ke kk x0 y0 x1 y1 ar A0 d0 A1 d1 A2 d2 A3 d3 D0 D1 D2 D3 Z0 Z1 H0 H1 G a0 a1 c0 c1 e0 e1 f0 f1 w hr0 hc0 hv0 hex0 hr1 hc1 hv1 hex1 hr2 hc2 hv2 hex2 hr3 hc3 hv3 hex3 hx01 hy01 hrv har hal hkk hkn hbc he0 hm0 hw0 he1 hm1 hw1 hrow
/-- The subbands of a plane, n times halved. -/
inductive Ana (kk : Int) : Nat → Pl → List Pl → Prop
 | zero (p : Pl) : Ana kk 0 p [p]
 | succ (n : Nat) (x0 y0 x1 y1 : Int) (D : List Int) (a0 a1 c0 c1 e0 e1 f0 f1 : Int) (G0 G1 G2 G3 : List Int) (bs : List Pl) (h : SplitTo kk x0 y0 x1 y1 D a0 a1 c0 c1 e0 e1 f0 f1 G0 G1 G2 G3) (hb : Ana kk n ⟨a0, e0, c0, f0, G0⟩ bs) : Ana kk (n + 1) ⟨x0, y0, x1, y1, D⟩ (bs ++ [⟨a1, e0, c1, f0, G1⟩, ⟨a0, e1, c0, f1, G2⟩, ⟨a1, e1, c1, f1, G3⟩])
theorem Ana.len {kk : Int} {n : Nat} {p : Pl} {bs : List Pl} (h : Ana kk n p bs) : bs.length = 3 * n + 1 := by
 induction h with
 | zero => rfl
 | succ n _ _ _ _ _ _ _ _ _ _ _ _ _ _ _ _ _ bs h hb ih => rw [List.length_append, ih]; show _ + 3 = _; omega
end Go.Proofs.Ytcnpekpgghppnaa.Q
