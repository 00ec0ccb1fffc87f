/- Texts of this session (words and printed walks, merged by wip/tools/merge.py) for the statement of the claim. -/
import Derived.Test.YtcnpekpgghppnaaMLo1
import Derived.Test.YtcnpekpgghppnaaMLo3
namespace Go.Proofs.Ytcnpekpgghppnaa.Q
open Go.RowKit Go.Proofs.YtcnpekpgghppnaaW.PrintWords Go.Proofs.YtcnpekpgghppnaaW.PrintLast Go.Proofs.YtcnpekpgghppnaaW.PrintMore
set_option linter.unusedVariables false
set_option linter.unusedSimpArgs false
theorem run_store_slice {W : World} {g i t : Nat} {old : Array Value} {A : Option Addr} {n c : Nat} (hb : W.heap[g]? = some (.cells old t (0, 0))) (hi : i < old.size) : (Instr.storeAt 24 (.pointer (some ⟨g, i, none⟩)) (.slice A n c)).run Try.prog W = .ok () (W.setCell ⟨g, i, none⟩ (.slice A n c)) := by
 have hc : W.cell? ⟨g, i, none⟩ = some old[i] := by rw [blk_cell hb i, Array.getElem?_eq_getElem hi]
 have hf : W.frozen? ⟨g, i, none⟩ = false := blk_frozen hb i
 have hu := Try.underlying24
 go_simp
section
variable {ops : Array Oper} {rest : List Oper} {o : Oper} {a : Act} {Q : Exit → Act → World → Prop} {W : World} {g t i : Nat} {old : Array Value}
theorem store_slice_ev {A : Option Addr} {n c : Nat} (hgd : o.guard = none) (hN : o.dst = none) (x y : Operand) (ho : o.op = .store 24 x y) (hx : a.eval x = .pointer (some ⟨g, i, none⟩)) (hy : a.eval y = .slice A n c) (hb : W.heap[g]? = some (.cells old t (0, 0))) (hi : i < old.size) {new : Array Value} (hn : old.setIfInBounds i (.slice A n c) = new)
  (h : ∀ W', Stored W g t new W' → wpList Try.prog ops Q rest a W') : wpList Try.prog ops Q (o :: rest) a W :=
 wpList_plain hgd fun K hK => by
  unfold Oper.wp execOp
  simp only [ho, hx, hy, Sem.run_bind, run_store_slice hb hi, Result.andThen_ok, Sem.run_pure]
  show K (a.put o.dst undef) _
  rw [hN]
  exact hK _ _ (h _ (stored_mid (cs := #[.slice A n c]) hb hn))
end
/-- What the rows of a plane come to, from the y-th on. -/
def rowsF (kk : Int) (k : Nat) (x0 x1 y0 y1 : Int) (D : List Int) : Nat → Int → List Int → List Int → Option (List Int × List Int)
 | 0, _, _, _ => none
 | f + 1, y, P, Q => if y < y1 then (if lift_bounded.f k (List.take (x1 - x0).toNat (List.drop ((y - y0) * (x1 - x0)).toNat D)) 281474976710656 = some true ∧ (List.take (x1 - x0).toNat (List.drop ((y - y0) * (x1 - x0)).toNat D)).length ≤ 4096 then (fwdF kk k x0 (List.take (x1 - x0).toNat (List.drop ((y - y0) * (x1 - x0)).toNat D))).bind fun p => if P.length + p.1.length ≤ 2097152 ∧ Q.length + p.2.length ≤ 2097152 then rowsF kk k x0 x1 y0 y1 D f (y + 1) (P ++ p.1) (Q ++ p.2) else none else none) else some (P, Q)
set_option maxHeartbeats 8000000 in
set_option maxRecDepth 100000 in
theorem dwt_Split.good (k ks kn ke : Nat) (kk x0 y0 x1 y1 : Int) (A : Option Addr) (c : Nat) (D H0 H1 Z0 Z1 Z2 Z3 G0 G1 G2 G3 : List Int) (a0 a1 c0 c1 e0 e1 f0 f1 : Int) (w : World)
  (hr : Kd.C (Kd.int .i64) w A D.length D) (hc : D.length ≤ c) (hv : PV x0 y0 x1 y1 D) (hkk : 1 ≤ kk ∧ kk ≤ 3) (hkn : dwt_known.f kn kk = some true) (hex : dwt_exceeds.f ke D 35184372088832 = some false) (hbc : bandsC x0 y0 x1 y1 4 = #[.int .i64 a0, .int .i64 e0, .int .i64 c0, .int .i64 f0, .int .i64 a1, .int .i64 e0, .int .i64 c1, .int .i64 f0, .int .i64 a0, .int .i64 e1, .int .i64 c0, .int .i64 f1, .int .i64 a1, .int .i64 e1, .int .i64 c1, .int .i64 f1]) (hrows : rowsF kk ks x0 x1 y0 y1 D k y0 [] [] = some (H0, H1)) (hv0 : PV a0 y0 c0 y1 H0) (hv1 : PV a1 y0 c1 y1 H1) (he0 : dwt_empty.f  a0  e0  c0  f0 = some ( a0,  e0,  c0,  f0, Z0)) (he1 : dwt_empty.f  a1  e0  c1  f0 = some ( a1,  e0,  c1,  f0, Z1)) (he2 : dwt_empty.f  a0  e1  c0  f1 = some ( a0,  e1,  c0,  f1, Z2)) (he3 : dwt_empty.f  a1  e1  c1  f1 = some ( a1,  e1,  c1,  f1, Z3)) (hs0 : colsF kk ks a0 c0 y0 H0 k a0 Z0 Z2 = some (G0, G2)) (hs1 : colsF kk ks a1 c1 y0 H1 k a1 Z1 Z3 = some (G1, G3)) :
  Calls Try.prog 30 #[.agg #[.int .i64 x0, .int .i64 y0, .int .i64 x1, .int .i64 y1, .slice A D.length c], .int .i64 kk] w fun e w' => ∃ v0 v1 v2 v3 : Value, e = .returned (.tuple #[.agg #[.int .i64 a0, .int .i64 e0, .int .i64 c0, .int .i64 f0, v0, .int .i64 a1, .int .i64 e0, .int .i64 c1, .int .i64 f0, v1, .int .i64 a0, .int .i64 e1, .int .i64 c0, .int .i64 f1, v2, .int .i64 a1, .int .i64 e1, .int .i64 c1, .int .i64 f1, v3], .int .i64 0]) ∧ Hold w.heap.size w w' [] [(v0, G0), (v1, G1), (v2, G2), (v3, G3)] := by
 have HR := Aside0.mk hr
 have HC := Aside0.mk hc
 have HV := Aside0.mk hv
 have HKK := Aside0.mk hkk
 have HKN := Aside0.mk hkn
 have HEX := Aside0.mk hex
 have HBC := Aside0.mk hbc
 have HROW := Aside0.mk hrows
 have HV0 := Aside0.mk hv0
 have HV1 := Aside0.mk hv1
 have HE0 := Aside0.mk he0
 have HE1 := Aside0.mk he1
 have HE2 := Aside0.mk he2
 have HE3 := Aside0.mk he3
 have HS0 := Aside0.mk hs0
 have HS1 := Aside0.mk hs1
 have HVV := Aside0.mk hv.valid
 have HX01 := Aside0.mk hv.1
 have HY01 := Aside0.mk hv.2.1
 have HRV := Aside0.mk (show rect_Valid.f x0 y0 x1 y1 = some true from by have h := hv.valid; unfold plane_Valid.f at h; obtain ⟨t, ht, h⟩ := Option.bind_eq_some_iff.mp h; rw [ht]; cases t with | true => rfl | false => exact absurd h (by simp))
 clear hr hc hv hkk hkn hex hbc hrows hv0 hv1 he0 he1 he2 he3 hs0 hs1
 have K00 := Aside0.mk (Hold.nil w)
 go_enter Try.func30, Try.ntmps30
 go_wp2_with (first
  | ((with_reducible refine gate_dst (N := 2) rfl ?_); refine bT (N := 2) (#[.int .i64 x0, .int .i64 y0, .int .i64 x1, .int .i64 y1, .slice A D.length c]) 26 ?_; intro g2 hg W2 hbox hb; have K2 := Aside0.mk (K00.out.box (Nat.le_refl _) hg hbox hb trivial); clear hg hbox hb K00)
  | ((with_reducible refine gate_dst (N := 3) rfl ?_); refine bT (N := 3) (#[.int .i64 kk]) 28 ?_; intro g3 hg W3 hbox hb; have K3 := Aside0.mk (K2.out.box (below_size K2.out.below) hg hbox hb trivial); clear hg hbox hb K2)
  | ((with_reducible refine gate_dst (N := 4) rfl ?_); refine bT (N := 4) (#[.int .i64 0, .int .i64 0, .int .i64 0, .int .i64 0, .slice none 0 0, .int .i64 0, .int .i64 0, .int .i64 0, .int .i64 0, .slice none 0 0, .int .i64 0, .int .i64 0, .int .i64 0, .int .i64 0, .slice none 0 0, .int .i64 0, .int .i64 0, .int .i64 0, .int .i64 0, .slice none 0 0]) 59 ?_; intro g4 hg W4 hbox hb; have K4 := Aside0.mk (K3.out.box (below_size K3.out.below) hg hbox hb trivial); clear hg hbox hb K3)
  | ((with_reducible refine gate_dst (N := 6) rfl ?_); refine bT (N := 6) (#[.int .i64 0, .int .i64 0, .int .i64 0, .int .i64 0, .slice none 0 0, .int .i64 0, .int .i64 0, .int .i64 0, .int .i64 0, .slice none 0 0, .int .i64 0, .int .i64 0, .int .i64 0, .int .i64 0, .slice none 0 0, .int .i64 0, .int .i64 0, .int .i64 0, .int .i64 0, .slice none 0 0]) 59 ?_; intro g6 hg W6 hbox hb; have K := Aside0.mk (K4.out.box (below_size K4.out.below) hg hbox hb trivial); clear hg hbox hb K4)
  | ((with_reducible refine gate_dst (N := 21) rfl ?_); refine load_ev rfl 26 (.tmp 2) rfl rfl (K.out.get 3 rfl) Try.underlying26 rfl ?_)
  | (go_at_call 25; (with_reducible refine (plane_Valid.calls x0 y0 x1 y1 A c D true _ (Kd.C_below HR.out K.out.below) HC.out HVV.out).mono ?_); rintro _ w25 ⟨rfl, b⟩; replace K := Aside0.mk (K.out.call (below_size K.out.below) b); clear b; have p3 : w25.cell? ⟨g3, 0, none⟩ = some (.int .i64 kk) := K.out.cell 2 rfl 0 rfl)
  | (go_at_call 56; (with_reducible refine (dwt_known.calls kn kk true _ HKN.out).mono ?_); rintro _ w56 ⟨rfl, b⟩; replace K := Aside0.mk (K.out.call (below_size K.out.below) b.below); clear b p3; have p3 : w56.cell? ⟨g2, 4, none⟩ = some (.slice A D.length c) := K.out.cell 3 rfl 4 rfl)
  | (go_at_call 57; (with_reducible refine (dwt_exceeds.calls ke A c D 35184372088832 false _ (Kd.C_below HR.out K.out.below) HC.out HEX.out).mono ?_); rintro _ w57 ⟨rfl, b⟩; replace K := Aside0.mk (K.out.call (below_size K.out.below) b.below); clear b p3)
  | ((with_reducible refine gate_dst (N := 34) rfl ?_); refine load_mid_ev (cs := #[.int .i64 x0, .int .i64 y0, .int .i64 x1, .int .i64 y1]) rfl 23 (.tmp 33) rfl rfl (K.out.get 3 rfl) (fun j v hj => by rcases j with _ | _ | _ | _ | j <;> first | exact hj | (simp at hj)) Try.underlying23 rfl rfl ?_)
  | ((with_reducible refine gate_dst (N := 7) rfl ?_); refine bT (N := 7) (#[.int .i64 0, .int .i64 0, .int .i64 0, .int .i64 0]) 23 ?_; intro g7 hg W7 hbox hb; replace K := Aside0.mk (K.out.box (below_size K.out.below) hg hbox hb trivial); clear hg hbox hb)
  | ((with_reducible refine gate_store (t := 23) (p := 7) (v := .tmp 34) rfl ?_); refine store_ev rfl rfl 23 (.tmp 7) (.tmp 34) rfl rfl rfl (K.out.get 0 rfl) rfl rfl (by first | (kernel_rfl) | (simp [Value.oneCell'])) ?_; intro W7s hs; replace K := Aside0.mk (K.out.stored 0 rfl hs); clear hs)
  | ((with_reducible refine gate_dst (N := 35) rfl ?_); refine load_ev rfl 23 (.tmp 7) rfl rfl (K.out.get 0 rfl) Try.underlying23 rfl ?_)
  | (go_at_call 35; (with_reducible refine (dwt_Bands.good x0 y0 x1 y1 _ HRV.out).mono ?_); rintro _ w35 ⟨rfl, b⟩; rw [HBC.out]; replace K := Aside0.mk (K.out.call (below_size K.out.below) b); clear b)
  | ((with_reducible refine gate_dst (N := 8) rfl ?_); refine bT (N := 8) (#[.int .i64 0, .int .i64 0, .int .i64 0, .int .i64 0, .int .i64 0, .int .i64 0, .int .i64 0, .int .i64 0, .int .i64 0, .int .i64 0, .int .i64 0, .int .i64 0, .int .i64 0, .int .i64 0, .int .i64 0, .int .i64 0]) 62 ?_; intro g8 hg W8 hbox hb; replace K := Aside0.mk (K.out.box (below_size K.out.below) hg hbox hb trivial); clear hg hbox hb)
  | ((with_reducible refine gate_store (t := 62) (p := 8) (v := .tmp 36) rfl ?_); refine store_ev rfl rfl 62 (.tmp 8) (.tmp 36) rfl rfl rfl (K.out.get 0 rfl) rfl rfl (by first | (kernel_rfl) | (simp [Value.oneCell'])) ?_; intro W8s hs; replace K := Aside0.mk (K.out.stored 0 rfl hs); clear hs)
  | ((with_reducible refine gate_dst (N := 9) rfl ?_); refine bT (N := 9) (#[.int .i64 0, .int .i64 0, .int .i64 0, .int .i64 0, .slice none 0 0, .int .i64 0, .int .i64 0, .int .i64 0, .int .i64 0, .slice none 0 0]) 78 ?_; intro g9 hg W9 hbox hb; replace K := Aside0.mk (K.out.box (below_size K.out.below) hg hbox hb trivial); clear hg hbox hb))
 clear HRV HBC HVV HKN HEX
 go_loopg [37] 2 (fun kq v37 w' => ∃ n : Nat, v37 = .int .i64 (n : Int) ∧ n + kq = 2 ∧ Aside0 (Hold w.heap.size w w' [(g9, 78, (match n with | 0 => #[.int .i64 0, .int .i64 0, .int .i64 0, .int .i64 0, .slice none 0 0, .int .i64 0, .int .i64 0, .int .i64 0, .int .i64 0, .slice none 0 0] | 1 => #[.int .i64 a0, .int .i64 y0, .int .i64 c0, .int .i64 y1, .slice none 0 0, .int .i64 0, .int .i64 0, .int .i64 0, .int .i64 0, .slice none 0 0] | _ => #[.int .i64 a0, .int .i64 y0, .int .i64 c0, .int .i64 y1, .slice none 0 0, .int .i64 a1, .int .i64 y0, .int .i64 c1, .int .i64 y1, .slice none 0 0])), (g8, 62, #[.int .i64 a0, .int .i64 e0, .int .i64 c0, .int .i64 f0, .int .i64 a1, .int .i64 e0, .int .i64 c1, .int .i64 f0, .int .i64 a0, .int .i64 e1, .int .i64 c0, .int .i64 f1, .int .i64 a1, .int .i64 e1, .int .i64 c1, .int .i64 f1]), (g7, 23, #[.int .i64 x0, .int .i64 y0, .int .i64 x1, .int .i64 y1]), (g6, 59, #[.int .i64 0, .int .i64 0, .int .i64 0, .int .i64 0, .slice none 0 0, .int .i64 0, .int .i64 0, .int .i64 0, .int .i64 0, .slice none 0 0, .int .i64 0, .int .i64 0, .int .i64 0, .int .i64 0, .slice none 0 0, .int .i64 0, .int .i64 0, .int .i64 0, .int .i64 0, .slice none 0 0]), (g4, 59, #[.int .i64 0, .int .i64 0, .int .i64 0, .int .i64 0, .slice none 0 0, .int .i64 0, .int .i64 0, .int .i64 0, .int .i64 0, .slice none 0 0, .int .i64 0, .int .i64 0, .int .i64 0, .int .i64 0, .slice none 0 0, .int .i64 0, .int .i64 0, .int .i64 0, .int .i64 0, .slice none 0 0]), (g3, 28, #[.int .i64 kk]), (g2, 26, #[.int .i64 x0, .int .i64 y0, .int .i64 x1, .int .i64 y1, .slice A D.length c])] []))
 case atStart => exact ⟨0, rfl, rfl, K⟩
 case round =>
 clear K
 obtain ⟨n, rfl, hn, K⟩ := hrel
 have hn4 : n = 0 ∨ n = 1 ∨ n = 2 := by omega
 rcases hn4 with rfl | rfl | rfl
 ·have HK := K.out
  clear K
  have K := Aside0.mk (show Hold w.heap.size w wr [(g9, 78, #[.int .i64 0, .int .i64 0, .int .i64 0, .int .i64 0, .slice none 0 0, .int .i64 0, .int .i64 0, .int .i64 0, .int .i64 0, .slice none 0 0]), (g8, 62, #[.int .i64 a0, .int .i64 e0, .int .i64 c0, .int .i64 f0, .int .i64 a1, .int .i64 e0, .int .i64 c1, .int .i64 f0, .int .i64 a0, .int .i64 e1, .int .i64 c0, .int .i64 f1, .int .i64 a1, .int .i64 e1, .int .i64 c1, .int .i64 f1]), (g7, 23, #[.int .i64 x0, .int .i64 y0, .int .i64 x1, .int .i64 y1]), (g6, 59, #[.int .i64 0, .int .i64 0, .int .i64 0, .int .i64 0, .slice none 0 0, .int .i64 0, .int .i64 0, .int .i64 0, .int .i64 0, .slice none 0 0, .int .i64 0, .int .i64 0, .int .i64 0, .int .i64 0, .slice none 0 0, .int .i64 0, .int .i64 0, .int .i64 0, .int .i64 0, .slice none 0 0]), (g4, 59, #[.int .i64 0, .int .i64 0, .int .i64 0, .int .i64 0, .slice none 0 0, .int .i64 0, .int .i64 0, .int .i64 0, .int .i64 0, .slice none 0 0, .int .i64 0, .int .i64 0, .int .i64 0, .int .i64 0, .slice none 0 0, .int .i64 0, .int .i64 0, .int .i64 0, .int .i64 0, .slice none 0 0]), (g3, 28, #[.int .i64 kk]), (g2, 26, #[.int .i64 x0, .int .i64 y0, .int .i64 x1, .int .i64 y1, .slice A D.length c])] [] from HK)
  clear HK
  have hb0 : decide (((0 : Nat) : Int) < 2) = true := rfl
  go_upto_region 14 with (fail)
  replace K := Aside0.mk (K.out.drew)
  refine start_ (n := 17) (S := fun w' => w'.cell? ⟨g8, 0, none⟩ = some (.int .i64 a0) ∧ w'.cell? ⟨g7, 1, none⟩ = some (.int .i64 y0) ∧ w'.cell? ⟨g8, 2, none⟩ = some (.int .i64 c0) ∧ w'.cell? ⟨g7, 3, none⟩ = some (.int .i64 y1)) (ds := [16]) #[false, false, false, false, false, false, false, false, false, false, false, false, false, false, false, false, false] (by kernel_rfl) rfl rfl ⟨K.out.cell 1 rfl 0 rfl, K.out.cell 2 rfl 1 rfl, K.out.cell 1 rfl 2 rfl, K.out.cell 2 rfl 3 rfl⟩ (fun hHeld0 => ?_)
  generalize hw2 : wr.drew = w2 at *
  clear hw2
  have hHeld := Aside0.mk hHeld0
  clear hHeld0
  refine pT (i := 0) (N := some 40) ?_
  refine pT (i := 1) (N := some 41) ?_
  refine pT (i := 2) (N := some 42) ?_
  refine pT (i := 3) (N := some 43) ?_
  refine tT (i := 4) (N := some 44) (v := ?_) hHeld.out ?_
  refine pT (i := 5) (N := some 45) ?_
  refine tT (i := 6) (N := some 46) (v := ?_) hHeld.out ?_
  refine pT (i := 7) (N := some 47) ?_
  refine pT (i := 8) (N := some 48) ?_
  refine pT (i := 9) (N := some 49) ?_
  refine tT (i := 10) (N := some 50) (v := ?_) hHeld.out ?_
  refine pT (i := 11) (N := some 51) ?_
  refine tT (i := 12) (N := some 52) (v := ?_) hHeld.out ?_
  refine pT (i := 13) (N := some 53) ?_
  refine pT (i := 14) (N := some 54) ?_
  refine pT (i := 15) (N := some 55) ?_
  refine last_ (i := 16) (N := none) #[true, true, true, true, true, true, true, true, true, true, true, true, true, true, true, true, true] rfl rfl (by kernel_rfl) (by decide) (fun KC hK => ?_)
  refine store_mid_step (cs := #[.int .i64 a0, .int .i64 y0, .int .i64 c0, .int .i64 y1, .slice none 0 0]) (by rfl) rfl 26 (.tmp 55) (.tmp 54) rfl rfl (by kernel_rfl) (K.out.get 0 rfl) (Nat.le_of_ble_eq_true rfl) rfl (by first | (kernel_rfl) | (simp [Value.oneCell'])) (new := #[.int .i64 a0, .int .i64 y0, .int .i64 c0, .int .i64 y1, .slice none 0 0, .int .i64 0, .int .i64 0, .int .i64 0, .int .i64 0, .slice none 0 0]) rfl ?_
  intro WS hs
  refine hK.out _ _ ?_
  clear hK KC
  refine done_ (by kernel_rfl) ?_
  replace K := Aside0.mk (K.out.stored 0 rfl hs)
  clear hs hHeld
  go_wp2
  go_roundg (1)
  case measure => omega
  case rel => exact ⟨1, rfl, by omega, ⟨K.out⟩⟩
 ·have HK := K.out
  clear K
  have K := Aside0.mk (show Hold w.heap.size w wr [(g9, 78, #[.int .i64 a0, .int .i64 y0, .int .i64 c0, .int .i64 y1, .slice none 0 0, .int .i64 0, .int .i64 0, .int .i64 0, .int .i64 0, .slice none 0 0]), (g8, 62, #[.int .i64 a0, .int .i64 e0, .int .i64 c0, .int .i64 f0, .int .i64 a1, .int .i64 e0, .int .i64 c1, .int .i64 f0, .int .i64 a0, .int .i64 e1, .int .i64 c0, .int .i64 f1, .int .i64 a1, .int .i64 e1, .int .i64 c1, .int .i64 f1]), (g7, 23, #[.int .i64 x0, .int .i64 y0, .int .i64 x1, .int .i64 y1]), (g6, 59, #[.int .i64 0, .int .i64 0, .int .i64 0, .int .i64 0, .slice none 0 0, .int .i64 0, .int .i64 0, .int .i64 0, .int .i64 0, .slice none 0 0, .int .i64 0, .int .i64 0, .int .i64 0, .int .i64 0, .slice none 0 0, .int .i64 0, .int .i64 0, .int .i64 0, .int .i64 0, .slice none 0 0]), (g4, 59, #[.int .i64 0, .int .i64 0, .int .i64 0, .int .i64 0, .slice none 0 0, .int .i64 0, .int .i64 0, .int .i64 0, .int .i64 0, .slice none 0 0, .int .i64 0, .int .i64 0, .int .i64 0, .int .i64 0, .slice none 0 0, .int .i64 0, .int .i64 0, .int .i64 0, .int .i64 0, .slice none 0 0]), (g3, 28, #[.int .i64 kk]), (g2, 26, #[.int .i64 x0, .int .i64 y0, .int .i64 x1, .int .i64 y1, .slice A D.length c])] [] from HK)
  clear HK
  have hb0 : decide (((1 : Nat) : Int) < 2) = true := rfl
  go_upto_region 14 with (fail)
  replace K := Aside0.mk (K.out.drew)
  refine start_ (n := 17) (S := fun w' => w'.cell? ⟨g8, 4, none⟩ = some (.int .i64 a1) ∧ w'.cell? ⟨g7, 1, none⟩ = some (.int .i64 y0) ∧ w'.cell? ⟨g8, 6, none⟩ = some (.int .i64 c1) ∧ w'.cell? ⟨g7, 3, none⟩ = some (.int .i64 y1)) (ds := [16]) #[false, false, false, false, false, false, false, false, false, false, false, false, false, false, false, false, false] (by kernel_rfl) rfl rfl ⟨K.out.cell 1 rfl 4 rfl, K.out.cell 2 rfl 1 rfl, K.out.cell 1 rfl 6 rfl, K.out.cell 2 rfl 3 rfl⟩ (fun hHeld0 => ?_)
  generalize hw2 : wr.drew = w2 at *
  clear hw2
  have hHeld := Aside0.mk hHeld0
  clear hHeld0
  refine pT (i := 0) (N := some 40) ?_
  refine pT (i := 1) (N := some 41) ?_
  refine pT (i := 2) (N := some 42) ?_
  refine pT (i := 3) (N := some 43) ?_
  refine tT (i := 4) (N := some 44) (v := ?_) hHeld.out ?_
  refine pT (i := 5) (N := some 45) ?_
  refine tT (i := 6) (N := some 46) (v := ?_) hHeld.out ?_
  refine pT (i := 7) (N := some 47) ?_
  refine pT (i := 8) (N := some 48) ?_
  refine pT (i := 9) (N := some 49) ?_
  refine tT (i := 10) (N := some 50) (v := ?_) hHeld.out ?_
  refine pT (i := 11) (N := some 51) ?_
  refine tT (i := 12) (N := some 52) (v := ?_) hHeld.out ?_
  refine pT (i := 13) (N := some 53) ?_
  refine pT (i := 14) (N := some 54) ?_
  refine pT (i := 15) (N := some 55) ?_
  refine last_ (i := 16) (N := none) #[true, true, true, true, true, true, true, true, true, true, true, true, true, true, true, true, true] rfl rfl (by kernel_rfl) (by decide) (fun KC hK => ?_)
  refine store_mid_step (cs := #[.int .i64 a1, .int .i64 y0, .int .i64 c1, .int .i64 y1, .slice none 0 0]) (by rfl) rfl 26 (.tmp 55) (.tmp 54) rfl rfl (by kernel_rfl) (K.out.get 0 rfl) (Nat.le_of_ble_eq_true rfl) rfl (by first | (kernel_rfl) | (simp [Value.oneCell'])) (new := #[.int .i64 a0, .int .i64 y0, .int .i64 c0, .int .i64 y1, .slice none 0 0, .int .i64 a1, .int .i64 y0, .int .i64 c1, .int .i64 y1, .slice none 0 0]) rfl ?_
  intro WS hs
  refine hK.out _ _ ?_
  clear hK KC
  refine done_ (by kernel_rfl) ?_
  replace K := Aside0.mk (K.out.stored 0 rfl hs)
  clear hs hHeld
  go_wp2
  go_roundg (0)
  case measure => omega
  case rel => exact ⟨2, rfl, by omega, ⟨K.out⟩⟩
 ·have HK := K.out
  clear K
  have K := Aside0.mk (((show Hold w.heap.size w wr [(g9, 78, #[.int .i64 a0, .int .i64 y0, .int .i64 c0, .int .i64 y1, .slice none 0 0, .int .i64 a1, .int .i64 y0, .int .i64 c1, .int .i64 y1, .slice none 0 0]), (g8, 62, #[.int .i64 a0, .int .i64 e0, .int .i64 c0, .int .i64 f0, .int .i64 a1, .int .i64 e0, .int .i64 c1, .int .i64 f0, .int .i64 a0, .int .i64 e1, .int .i64 c0, .int .i64 f1, .int .i64 a1, .int .i64 e1, .int .i64 c1, .int .i64 f1]), (g7, 23, #[.int .i64 x0, .int .i64 y0, .int .i64 x1, .int .i64 y1]), (g6, 59, #[.int .i64 0, .int .i64 0, .int .i64 0, .int .i64 0, .slice none 0 0, .int .i64 0, .int .i64 0, .int .i64 0, .int .i64 0, .slice none 0 0, .int .i64 0, .int .i64 0, .int .i64 0, .int .i64 0, .slice none 0 0, .int .i64 0, .int .i64 0, .int .i64 0, .int .i64 0, .slice none 0 0]), (g4, 59, #[.int .i64 0, .int .i64 0, .int .i64 0, .int .i64 0, .slice none 0 0, .int .i64 0, .int .i64 0, .int .i64 0, .int .i64 0, .slice none 0 0, .int .i64 0, .int .i64 0, .int .i64 0, .int .i64 0, .slice none 0 0, .int .i64 0, .int .i64 0, .int .i64 0, .int .i64 0, .slice none 0 0]), (g3, 28, #[.int .i64 kk]), (g2, 26, #[.int .i64 x0, .int .i64 y0, .int .i64 x1, .int .i64 y1, .slice A D.length c])] [] from HK).add (below_size HK.below) (Kd.R_nil _ _ _ _ (fun _ => True)) (Below.refl _ _)).add (below_size HK.below) (Kd.R_nil _ _ _ _ (fun _ => True)) (Below.refl _ _))
  clear HK
  have hb0 : decide (((2 : Nat) : Int) < 2) = false := rfl
  have p1 : wr.cell? ⟨g7, 1, none⟩ = some (.int .i64 y0) := K.out.cell 2 rfl 1 rfl
  go_wp2
  clear p1 hb0
  go_loopg [11] k (fun kq v11 w' => ∃ (y : Int) (P Q : List Int) (A0 A1 : Option Addr) (d0 d1 : Nat), v11 = .int .i64 y ∧ Aside0 (y0 ≤ y) ∧ Aside0 (rowsF kk ks x0 x1 y0 y1 D kq y P Q = some (H0, H1)) ∧ Aside0 (Hold w.heap.size w w' [(g9, 78, #[.int .i64 a0, .int .i64 y0, .int .i64 c0, .int .i64 y1, .slice A0 P.length d0, .int .i64 a1, .int .i64 y0, .int .i64 c1, .int .i64 y1, .slice A1 Q.length d1]), (g8, 62, #[.int .i64 a0, .int .i64 e0, .int .i64 c0, .int .i64 f0, .int .i64 a1, .int .i64 e0, .int .i64 c1, .int .i64 f0, .int .i64 a0, .int .i64 e1, .int .i64 c0, .int .i64 f1, .int .i64 a1, .int .i64 e1, .int .i64 c1, .int .i64 f1]), (g7, 23, #[.int .i64 x0, .int .i64 y0, .int .i64 x1, .int .i64 y1]), (g6, 59, #[.int .i64 0, .int .i64 0, .int .i64 0, .int .i64 0, .slice none 0 0, .int .i64 0, .int .i64 0, .int .i64 0, .int .i64 0, .slice none 0 0, .int .i64 0, .int .i64 0, .int .i64 0, .int .i64 0, .slice none 0 0, .int .i64 0, .int .i64 0, .int .i64 0, .int .i64 0, .slice none 0 0]), (g4, 59, #[.int .i64 0, .int .i64 0, .int .i64 0, .int .i64 0, .slice none 0 0, .int .i64 0, .int .i64 0, .int .i64 0, .int .i64 0, .slice none 0 0, .int .i64 0, .int .i64 0, .int .i64 0, .int .i64 0, .slice none 0 0, .int .i64 0, .int .i64 0, .int .i64 0, .int .i64 0, .slice none 0 0]), (g3, 28, #[.int .i64 kk]), (g2, 26, #[.int .i64 x0, .int .i64 y0, .int .i64 x1, .int .i64 y1, .slice A D.length c])] [(.slice A0 P.length d0, P), (.slice A1 Q.length d1, Q)]))
  case atStart => exact ⟨y0, [], [], none, none, 0, 0, rfl, ⟨Int.le_refl _⟩, HROW, K⟩
  case round =>
  clear K HROW
  obtain ⟨y, P, Q, A0, A1, d0, d1, rfl, HY0, HX, K⟩ := hrel
  cases gk with
  | zero => exact absurd HX.out (by simp [rowsF])
  | succ kq =>
  have hs := HX.out
  clear HX
  rw [rowsF.eq_2] at hs
  have p3 : wr.cell? ⟨g7, 3, none⟩ = some (.int .i64 y1) := K.out.cell 2 rfl 3 rfl
  by_cases hi : y < y1
  ·rw [if_pos hi] at hs
   have hb0 : decide (y < y1) = true := decide_eq_true hi
   obtain ⟨row, hrw⟩ : ∃ row, row = List.take (x1 - x0).toNat (List.drop ((y - y0) * (x1 - x0)).toNat D) := ⟨_, rfl⟩
   rw [← hrw] at hs
   have HRW := Aside0.mk hrw
   clear hrw
   by_cases hbd : lift_bounded.f ks row 281474976710656 = some true ∧ row.length ≤ 4096
   rotate_left
   ·rw [if_neg hbd] at hs
    cases hs
   rw [if_pos hbd] at hs
   obtain ⟨⟨lo, hi_⟩, hfw, hs⟩ := Option.bind_eq_some_iff.mp hs
   by_cases hlim : P.length + lo.length ≤ 2097152 ∧ Q.length + hi_.length ≤ 2097152
   rotate_left
   ·rw [if_neg hlim] at hs
    cases hs
   rw [if_pos hlim] at hs
   obtain ⟨P2, hP2⟩ : ∃ P2, P2 = P ++ lo := ⟨_, rfl⟩
   obtain ⟨Q2, hQ2⟩ : ∃ Q2, Q2 = Q ++ hi_ := ⟨_, rfl⟩
   rw [← hP2, ← hQ2] at hs
   have HP2 := Aside0.mk hP2
   have HQ2 := Aside0.mk hQ2
   clear hP2 hQ2
   have HX := Aside0.mk hs
   have HBD := Aside0.mk hbd
   have HFW := Aside0.mk hfw
   have HLIM := Aside0.mk hlim
   have HYI := Aside0.mk (And.intro HY0.out hi)
   clear hs hbd hfw hlim hi HY0
   have hwy : wrap64 (y + 1) = y + 1 := by have := HYI.out; have := HY01.out; unfold wrap64; omega
   go_wp2_with (first
    | ((with_reducible refine gate_dst (N := 66) rfl ?_); refine load_ev rfl 26 (.tmp 2) rfl rfl (K.out.get 6 rfl) Try.underlying26 rfl ?_)
    | (go_at_call 58; (with_reducible refine (plane_Row.good x0 y0 x1 y1 A c D y _ (Kd.C_below HR.out K.out.below) HC.out HV.out HYI.out.1 HYI.out.2).mono ?_); rintro _ w9 ⟨vc, rfl, hR, b⟩; rw [← HRW.out] at hR; obtain ⟨Ac, cc, rfl⟩ := Kd.R_slice hR; have HC2 := Aside0.mk hR; replace K := Aside0.mk (K.out.call (below_size K.out.below) b); clear b hR p3; have HM0 := Aside0.mk (fun k hk => Kd.R_lt (K.out.rowAt 0 rfl) k hk); have p0 : w9.cell? ⟨g7, 0, none⟩ = some (.int .i64 x0) := K.out.cell 2 rfl 0 rfl; have p2 : w9.cell? ⟨g3, 0, none⟩ = some (.int .i64 kk) := K.out.cell 5 rfl 0 rfl)
    | (go_at_call 59; (with_reducible refine (lift_Forward.good ks ks kk Ac cc row x0 lo hi_ _ (Kd.R_reads' HC2.out).2.2 (Kd.R_reads' HC2.out).2.1 HKK.out.1 HKK.out.2 HX01.out.1 (by have := HX01.out; omega) HBD.out.2 HBD.out.1 HFW.out).mono ?_); rintro _ wf ⟨u1, u2, rfl, hR1, hR2, b⟩; obtain ⟨Al, cl, rfl⟩ := Kd.R_slice hR1; obtain ⟨Ah, ch, rfl⟩ := Kd.R_slice hR2; have HL := Aside0.mk hR1; have HH2 := Aside0.mk hR2; replace K := Aside0.mk (K.out.call (below_size K.out.below) b); clear b hR1 hR2 p0 p2; have p4 : wf.cell? ⟨g9, 4, none⟩ = some (.slice A0 P.length d0) := K.out.cell 0 rfl 4 rfl)
    | ((with_reducible refine gate_builtin (b := .append) (xs := #[.tmp 86, .tmp 87]) rfl ?_); at_builtin; refine Kd.R_append_rows (Kd.int .i64) (w0 := w) w.heap.size rfl (.tmp 86) (.tmp 87) 24 3 (.int .i64 0) 8 rfl Try.underlying24 info3 rfl (by decide) (by omega) (.slice A0 P.length d0) P lo Al lo.length cl (fun _ => True) (fun _ => False) rfl rfl (Kd.R_mono (K.out.rowAt 0 rfl) (fun _ _ => trivial)) (Kd.R_reads' HL.out).2.2 (fun _ _ h => h) (fun _ h => h.elim) (fun _ _ => trivial) K.out.below (below_size K.out.below) (by have := HLIM.out; simp; omega) ?_; intro v0 w3 ho hb hg hat; rw [← HP2.out] at ho; obtain ⟨A2, d2, rfl⟩ := Kd.R_slice ho; have HH3 := Aside0.mk (Kd.R_mono (ok' := fun _ => True) (Kd.R_kept (Kd.R_bound HH2.out) (Kept.of_grown hg (Kept.refl _ (fun k => (Value.slice A0 P.length d0).ownBlock = some k)) (fun k e => .inl e)) (fun k hk hv => by have h1 := HM0.out k hv; have h2 := hk.2.1; omega)) (fun _ _ => trivial)); replace K := Aside0.mk (K.out.grown (i := 0) rfl ho hb hg hat); clear HL HH2 ho hb hg hat HM0 p4)
    | ((with_reducible refine gate_store (t := 24) (p := 90) (v := .tmp 88) rfl ?_); refine store_slice_ev rfl rfl (.tmp 90) (.tmp 88) rfl rfl rfl (K.out.get 0 rfl) (Nat.le_of_ble_eq_true rfl) (new := #[.int .i64 a0, .int .i64 y0, .int .i64 c0, .int .i64 y1, .slice A2 P2.length d2, .int .i64 a1, .int .i64 y0, .int .i64 c1, .int .i64 y1, .slice A1 Q.length d1]) rfl ?_; intro W90 hs; have HH4 := Aside0.mk (row_stored HH3.out (K.out.get 0 rfl) (by decide) hs); replace K := Aside0.mk (K.out.stored 0 rfl hs); clear hs HH3; have p9 : W90.cell? ⟨g9, 9, none⟩ = some (.slice A1 Q.length d1) := K.out.cell 0 rfl 9 rfl)
    | ((with_reducible refine gate_builtin (b := .append) (xs := #[.tmp 93, .tmp 94]) rfl ?_); at_builtin; refine Kd.R_append_rows (Kd.int .i64) (w0 := w) w.heap.size rfl (.tmp 93) (.tmp 94) 24 3 (.int .i64 0) 8 rfl Try.underlying24 info3 rfl (by decide) (by omega) (.slice A1 Q.length d1) Q hi_ Ah hi_.length ch (fun _ => True) (fun _ => False) rfl rfl (Kd.R_mono (K.out.rowAt 1 rfl) (fun _ _ => trivial)) (Kd.R_reads' HH4.out).2.2 (fun _ _ h => h) (fun _ h => h.elim) (fun _ _ => trivial) K.out.below (below_size K.out.below) (by have := HLIM.out; simp; omega) ?_; intro v1 w4 ho hb hg hat; rw [← HQ2.out] at ho; obtain ⟨A3, d3, rfl⟩ := Kd.R_slice ho; replace K := Aside0.mk (K.out.grown (i := 1) rfl ho hb hg hat); clear HH4 ho hb hg hat p9)
    | ((with_reducible refine gate_store (t := 24) (p := 97) (v := .tmp 95) rfl ?_); refine store_slice_ev rfl rfl (.tmp 97) (.tmp 95) rfl rfl rfl (K.out.get 0 rfl) (Nat.le_of_ble_eq_true rfl) (new := #[.int .i64 a0, .int .i64 y0, .int .i64 c0, .int .i64 y1, .slice A2 P2.length d2, .int .i64 a1, .int .i64 y0, .int .i64 c1, .int .i64 y1, .slice A3 Q2.length d3]) rfl ?_; intro W97 hs; replace K := Aside0.mk (K.out.stored 0 rfl hs); clear hs))
   go_roundg kq
   case measure => omega
   case rel => exact ⟨y + 1, P2, Q2, A2, A3, d2, d3, by rw [hwy], ⟨by have := HYI.out; omega⟩, HX, ⟨K.out⟩⟩
  ·rw [if_neg hi] at hs
   have hb0 : decide (y < y1) = false := decide_eq_false hi
   have hs' := Option.some.inj hs
   obtain ⟨rfl, rfl⟩ := Prod.mk.inj hs'
   clear hs hs' hi HY0 HR HC HV HX01
   have K := Aside0.mk (show Hold w.heap.size w wr [(g9, 78, #[.int .i64 a0, .int .i64 y0, .int .i64 c0, .int .i64 y1, .slice A0 P.length d0, .int .i64 a1, .int .i64 y0, .int .i64 c1, .int .i64 y1, .slice A1 Q.length d1]), (g8, 62, #[.int .i64 a0, .int .i64 e0, .int .i64 c0, .int .i64 f0, .int .i64 a1, .int .i64 e0, .int .i64 c1, .int .i64 f0, .int .i64 a0, .int .i64 e1, .int .i64 c0, .int .i64 f1, .int .i64 a1, .int .i64 e1, .int .i64 c1, .int .i64 f1]), (g7, 23, #[.int .i64 x0, .int .i64 y0, .int .i64 x1, .int .i64 y1]), (g6, 59, #[.int .i64 0, .int .i64 0, .int .i64 0, .int .i64 0, .slice none 0 0, .int .i64 0, .int .i64 0, .int .i64 0, .int .i64 0, .slice none 0 0, .int .i64 0, .int .i64 0, .int .i64 0, .int .i64 0, .slice none 0 0, .int .i64 0, .int .i64 0, .int .i64 0, .int .i64 0, .slice none 0 0]), (g4, 59, #[.int .i64 0, .int .i64 0, .int .i64 0, .int .i64 0, .slice none 0 0, .int .i64 0, .int .i64 0, .int .i64 0, .int .i64 0, .slice none 0 0, .int .i64 0, .int .i64 0, .int .i64 0, .int .i64 0, .slice none 0 0, .int .i64 0, .int .i64 0, .int .i64 0, .int .i64 0, .slice none 0 0]), (g3, 28, #[.int .i64 kk]), (g2, 26, #[.int .i64 x0, .int .i64 y0, .int .i64 x1, .int .i64 y1, .slice A D.length c])] [(.slice A0 P.length d0, P), (.slice A1 Q.length d1, Q)] from K.out)
   go_wp2
   go_loopg [98] 4 (fun kq v98 w' => ∃ n : Nat, v98 = .int .i64 (n : Int) ∧ n + kq = 4 ∧ ((n = 0 ∧ Aside0 (Hold w.heap.size w w' [(g9, 78, #[.int .i64 a0, .int .i64 y0, .int .i64 c0, .int .i64 y1, .slice A0 P.length d0, .int .i64 a1, .int .i64 y0, .int .i64 c1, .int .i64 y1, .slice A1 Q.length d1]), (g8, 62, #[.int .i64 a0, .int .i64 e0, .int .i64 c0, .int .i64 f0, .int .i64 a1, .int .i64 e0, .int .i64 c1, .int .i64 f0, .int .i64 a0, .int .i64 e1, .int .i64 c0, .int .i64 f1, .int .i64 a1, .int .i64 e1, .int .i64 c1, .int .i64 f1]), (g7, 23, #[.int .i64 x0, .int .i64 y0, .int .i64 x1, .int .i64 y1]), (g6, 59, #[.int .i64 0, .int .i64 0, .int .i64 0, .int .i64 0, .slice none 0 0, .int .i64 0, .int .i64 0, .int .i64 0, .int .i64 0, .slice none 0 0, .int .i64 0, .int .i64 0, .int .i64 0, .int .i64 0, .slice none 0 0, .int .i64 0, .int .i64 0, .int .i64 0, .int .i64 0, .slice none 0 0]), (g4, 59, #[.int .i64 0, .int .i64 0, .int .i64 0, .int .i64 0, .slice none 0 0, .int .i64 0, .int .i64 0, .int .i64 0, .int .i64 0, .slice none 0 0, .int .i64 0, .int .i64 0, .int .i64 0, .int .i64 0, .slice none 0 0, .int .i64 0, .int .i64 0, .int .i64 0, .int .i64 0, .slice none 0 0]), (g3, 28, #[.int .i64 kk]), (g2, 26, #[.int .i64 x0, .int .i64 y0, .int .i64 x1, .int .i64 y1, .slice A D.length c])] [(.slice A0 P.length d0, P), (.slice A1 Q.length d1, Q)])) ∨ (n = 1 ∧ ∃ v0 : Value, Aside0 (Hold w.heap.size w w' [(g9, 78, #[.int .i64 a0, .int .i64 y0, .int .i64 c0, .int .i64 y1, .slice A0 P.length d0, .int .i64 a1, .int .i64 y0, .int .i64 c1, .int .i64 y1, .slice A1 Q.length d1]), (g8, 62, #[.int .i64 a0, .int .i64 e0, .int .i64 c0, .int .i64 f0, .int .i64 a1, .int .i64 e0, .int .i64 c1, .int .i64 f0, .int .i64 a0, .int .i64 e1, .int .i64 c0, .int .i64 f1, .int .i64 a1, .int .i64 e1, .int .i64 c1, .int .i64 f1]), (g7, 23, #[.int .i64 x0, .int .i64 y0, .int .i64 x1, .int .i64 y1]), (g6, 59, #[.int .i64 a0, .int .i64 e0, .int .i64 c0, .int .i64 f0, v0, .int .i64 0, .int .i64 0, .int .i64 0, .int .i64 0, .slice none 0 0, .int .i64 0, .int .i64 0, .int .i64 0, .int .i64 0, .slice none 0 0, .int .i64 0, .int .i64 0, .int .i64 0, .int .i64 0, .slice none 0 0]), (g4, 59, #[.int .i64 0, .int .i64 0, .int .i64 0, .int .i64 0, .slice none 0 0, .int .i64 0, .int .i64 0, .int .i64 0, .int .i64 0, .slice none 0 0, .int .i64 0, .int .i64 0, .int .i64 0, .int .i64 0, .slice none 0 0, .int .i64 0, .int .i64 0, .int .i64 0, .int .i64 0, .slice none 0 0]), (g3, 28, #[.int .i64 kk]), (g2, 26, #[.int .i64 x0, .int .i64 y0, .int .i64 x1, .int .i64 y1, .slice A D.length c])] [(v0, Z0), (.slice A0 P.length d0, P), (.slice A1 Q.length d1, Q)])) ∨ (n = 2 ∧ ∃ v0 v1 : Value, Aside0 (Hold w.heap.size w w' [(g9, 78, #[.int .i64 a0, .int .i64 y0, .int .i64 c0, .int .i64 y1, .slice A0 P.length d0, .int .i64 a1, .int .i64 y0, .int .i64 c1, .int .i64 y1, .slice A1 Q.length d1]), (g8, 62, #[.int .i64 a0, .int .i64 e0, .int .i64 c0, .int .i64 f0, .int .i64 a1, .int .i64 e0, .int .i64 c1, .int .i64 f0, .int .i64 a0, .int .i64 e1, .int .i64 c0, .int .i64 f1, .int .i64 a1, .int .i64 e1, .int .i64 c1, .int .i64 f1]), (g7, 23, #[.int .i64 x0, .int .i64 y0, .int .i64 x1, .int .i64 y1]), (g6, 59, #[.int .i64 a0, .int .i64 e0, .int .i64 c0, .int .i64 f0, v0, .int .i64 a1, .int .i64 e0, .int .i64 c1, .int .i64 f0, v1, .int .i64 0, .int .i64 0, .int .i64 0, .int .i64 0, .slice none 0 0, .int .i64 0, .int .i64 0, .int .i64 0, .int .i64 0, .slice none 0 0]), (g4, 59, #[.int .i64 0, .int .i64 0, .int .i64 0, .int .i64 0, .slice none 0 0, .int .i64 0, .int .i64 0, .int .i64 0, .int .i64 0, .slice none 0 0, .int .i64 0, .int .i64 0, .int .i64 0, .int .i64 0, .slice none 0 0, .int .i64 0, .int .i64 0, .int .i64 0, .int .i64 0, .slice none 0 0]), (g3, 28, #[.int .i64 kk]), (g2, 26, #[.int .i64 x0, .int .i64 y0, .int .i64 x1, .int .i64 y1, .slice A D.length c])] [(v1, Z1), (v0, Z0), (.slice A0 P.length d0, P), (.slice A1 Q.length d1, Q)])) ∨ (n = 3 ∧ ∃ v0 v1 v2 : Value, Aside0 (Hold w.heap.size w w' [(g9, 78, #[.int .i64 a0, .int .i64 y0, .int .i64 c0, .int .i64 y1, .slice A0 P.length d0, .int .i64 a1, .int .i64 y0, .int .i64 c1, .int .i64 y1, .slice A1 Q.length d1]), (g8, 62, #[.int .i64 a0, .int .i64 e0, .int .i64 c0, .int .i64 f0, .int .i64 a1, .int .i64 e0, .int .i64 c1, .int .i64 f0, .int .i64 a0, .int .i64 e1, .int .i64 c0, .int .i64 f1, .int .i64 a1, .int .i64 e1, .int .i64 c1, .int .i64 f1]), (g7, 23, #[.int .i64 x0, .int .i64 y0, .int .i64 x1, .int .i64 y1]), (g6, 59, #[.int .i64 a0, .int .i64 e0, .int .i64 c0, .int .i64 f0, v0, .int .i64 a1, .int .i64 e0, .int .i64 c1, .int .i64 f0, v1, .int .i64 a0, .int .i64 e1, .int .i64 c0, .int .i64 f1, v2, .int .i64 0, .int .i64 0, .int .i64 0, .int .i64 0, .slice none 0 0]), (g4, 59, #[.int .i64 0, .int .i64 0, .int .i64 0, .int .i64 0, .slice none 0 0, .int .i64 0, .int .i64 0, .int .i64 0, .int .i64 0, .slice none 0 0, .int .i64 0, .int .i64 0, .int .i64 0, .int .i64 0, .slice none 0 0, .int .i64 0, .int .i64 0, .int .i64 0, .int .i64 0, .slice none 0 0]), (g3, 28, #[.int .i64 kk]), (g2, 26, #[.int .i64 x0, .int .i64 y0, .int .i64 x1, .int .i64 y1, .slice A D.length c])] [(v2, Z2), (v1, Z1), (v0, Z0), (.slice A0 P.length d0, P), (.slice A1 Q.length d1, Q)])) ∨ (n = 4 ∧ ∃ v0 v1 v2 v3 : Value, Aside0 (Hold w.heap.size w w' [(g9, 78, #[.int .i64 a0, .int .i64 y0, .int .i64 c0, .int .i64 y1, .slice A0 P.length d0, .int .i64 a1, .int .i64 y0, .int .i64 c1, .int .i64 y1, .slice A1 Q.length d1]), (g8, 62, #[.int .i64 a0, .int .i64 e0, .int .i64 c0, .int .i64 f0, .int .i64 a1, .int .i64 e0, .int .i64 c1, .int .i64 f0, .int .i64 a0, .int .i64 e1, .int .i64 c0, .int .i64 f1, .int .i64 a1, .int .i64 e1, .int .i64 c1, .int .i64 f1]), (g7, 23, #[.int .i64 x0, .int .i64 y0, .int .i64 x1, .int .i64 y1]), (g6, 59, #[.int .i64 a0, .int .i64 e0, .int .i64 c0, .int .i64 f0, v0, .int .i64 a1, .int .i64 e0, .int .i64 c1, .int .i64 f0, v1, .int .i64 a0, .int .i64 e1, .int .i64 c0, .int .i64 f1, v2, .int .i64 a1, .int .i64 e1, .int .i64 c1, .int .i64 f1, v3]), (g4, 59, #[.int .i64 0, .int .i64 0, .int .i64 0, .int .i64 0, .slice none 0 0, .int .i64 0, .int .i64 0, .int .i64 0, .int .i64 0, .slice none 0 0, .int .i64 0, .int .i64 0, .int .i64 0, .int .i64 0, .slice none 0 0, .int .i64 0, .int .i64 0, .int .i64 0, .int .i64 0, .slice none 0 0]), (g3, 28, #[.int .i64 kk]), (g2, 26, #[.int .i64 x0, .int .i64 y0, .int .i64 x1, .int .i64 y1, .slice A D.length c])] [(v3, Z3), (v2, Z2), (v1, Z1), (v0, Z0), (.slice A0 P.length d0, P), (.slice A1 Q.length d1, Q)]))))
   case atStart => exact ⟨0, rfl, rfl, .inl ⟨rfl, K⟩⟩
   case round =>
   clear K
   obtain ⟨n, rfl, hn, hKK⟩ := hrel
   rcases hKK with ⟨rfl, K⟩ | ⟨rfl, v0, K⟩ | ⟨rfl, v0, v1, K⟩ | ⟨rfl, v0, v1, v2, K⟩ | ⟨rfl, v0, v1, v2, v3, K⟩
   ·have hb0 : decide (((0 : Nat) : Int) < 4) = true := rfl
    go_wp2_with (first
     | ((with_reducible refine gate_dst (N := 104) rfl ?_); refine load_mid_ev (i := 0) (cs := #[.int .i64 a0, .int .i64 e0, .int .i64 c0, .int .i64 f0]) rfl 23 (.tmp 103) rfl rfl (K.out.get 1 rfl) (fun j v hj => by rcases j with _ | _ | _ | _ | j <;> first | exact hj | (simp at hj)) Try.underlying23 rfl rfl ?_)
     | (go_at_call 60; (with_reducible refine (dwt_empty.calls  a0  e0  c0  f0  a0  e0  c0  f0 Z0 _ HE0.out).mono ?_); rintro _ w60 ⟨vz, rfl, hR, b⟩; obtain ⟨Az, dz, rfl⟩ := Kd.R_slice hR; replace K := Aside0.mk (K.out.add (below_size K.out.below) hR b); clear b hR)
     | ((with_reducible refine gate_store (t := 26) (p := 106) (v := .tmp 105) rfl ?_); refine store_mid_ev (cs := #[.int .i64 a0, .int .i64 e0, .int .i64 c0, .int .i64 f0, .slice Az Z0.length dz]) rfl rfl 26 (.tmp 106) (.tmp 105) rfl rfl (by kernel_rfl) (K.out.get 3 rfl) (Nat.le_of_ble_eq_true rfl) rfl (by first | (kernel_rfl) | (simp [Value.oneCell'])) (new := #[.int .i64 a0, .int .i64 e0, .int .i64 c0, .int .i64 f0, (.slice Az Z0.length dz), .int .i64 0, .int .i64 0, .int .i64 0, .int .i64 0, .slice none 0 0, .int .i64 0, .int .i64 0, .int .i64 0, .int .i64 0, .slice none 0 0, .int .i64 0, .int .i64 0, .int .i64 0, .int .i64 0, .slice none 0 0]) rfl ?_; intro wS hs; replace K := Aside0.mk (K.out.stored 3 rfl hs); clear hs))
    go_roundg (3)
    case measure => omega
    case rel => exact ⟨1, rfl, by omega, .inr (.inl ⟨rfl, _, ⟨K.out⟩⟩)⟩
   ·have hb0 : decide (((1 : Nat) : Int) < 4) = true := rfl
    go_wp2_with (first
     | ((with_reducible refine gate_dst (N := 104) rfl ?_); refine load_mid_ev (i := 4) (cs := #[.int .i64 a1, .int .i64 e0, .int .i64 c1, .int .i64 f0]) rfl 23 (.tmp 103) rfl rfl (K.out.get 1 rfl) (fun j v hj => by rcases j with _ | _ | _ | _ | j <;> first | exact hj | (simp at hj)) Try.underlying23 rfl rfl ?_)
     | (go_at_call 60; (with_reducible refine (dwt_empty.calls  a1  e0  c1  f0  a1  e0  c1  f0 Z1 _ HE1.out).mono ?_); rintro _ w60 ⟨vz, rfl, hR, b⟩; obtain ⟨Az, dz, rfl⟩ := Kd.R_slice hR; replace K := Aside0.mk (K.out.add (below_size K.out.below) hR b); clear b hR)
     | ((with_reducible refine gate_store (t := 26) (p := 106) (v := .tmp 105) rfl ?_); refine store_mid_ev (cs := #[.int .i64 a1, .int .i64 e0, .int .i64 c1, .int .i64 f0, .slice Az Z1.length dz]) rfl rfl 26 (.tmp 106) (.tmp 105) rfl rfl (by kernel_rfl) (K.out.get 3 rfl) (Nat.le_of_ble_eq_true rfl) rfl (by first | (kernel_rfl) | (simp [Value.oneCell'])) (new := #[.int .i64 a0, .int .i64 e0, .int .i64 c0, .int .i64 f0, v0, .int .i64 a1, .int .i64 e0, .int .i64 c1, .int .i64 f0, (.slice Az Z1.length dz), .int .i64 0, .int .i64 0, .int .i64 0, .int .i64 0, .slice none 0 0, .int .i64 0, .int .i64 0, .int .i64 0, .int .i64 0, .slice none 0 0]) rfl ?_; intro wS hs; replace K := Aside0.mk (K.out.stored 3 rfl hs); clear hs))
    go_roundg (2)
    case measure => omega
    case rel => exact ⟨2, rfl, by omega, .inr (.inr (.inl ⟨rfl, v0, _, ⟨K.out⟩⟩))⟩
   ·have hb0 : decide (((2 : Nat) : Int) < 4) = true := rfl
    go_wp2_with (first
     | ((with_reducible refine gate_dst (N := 104) rfl ?_); refine load_mid_ev (i := 8) (cs := #[.int .i64 a0, .int .i64 e1, .int .i64 c0, .int .i64 f1]) rfl 23 (.tmp 103) rfl rfl (K.out.get 1 rfl) (fun j v hj => by rcases j with _ | _ | _ | _ | j <;> first | exact hj | (simp at hj)) Try.underlying23 rfl rfl ?_)
     | (go_at_call 60; (with_reducible refine (dwt_empty.calls  a0  e1  c0  f1  a0  e1  c0  f1 Z2 _ HE2.out).mono ?_); rintro _ w60 ⟨vz, rfl, hR, b⟩; obtain ⟨Az, dz, rfl⟩ := Kd.R_slice hR; replace K := Aside0.mk (K.out.add (below_size K.out.below) hR b); clear b hR)
     | ((with_reducible refine gate_store (t := 26) (p := 106) (v := .tmp 105) rfl ?_); refine store_mid_ev (cs := #[.int .i64 a0, .int .i64 e1, .int .i64 c0, .int .i64 f1, .slice Az Z2.length dz]) rfl rfl 26 (.tmp 106) (.tmp 105) rfl rfl (by kernel_rfl) (K.out.get 3 rfl) (Nat.le_of_ble_eq_true rfl) rfl (by first | (kernel_rfl) | (simp [Value.oneCell'])) (new := #[.int .i64 a0, .int .i64 e0, .int .i64 c0, .int .i64 f0, v0, .int .i64 a1, .int .i64 e0, .int .i64 c1, .int .i64 f0, v1, .int .i64 a0, .int .i64 e1, .int .i64 c0, .int .i64 f1, (.slice Az Z2.length dz), .int .i64 0, .int .i64 0, .int .i64 0, .int .i64 0, .slice none 0 0]) rfl ?_; intro wS hs; replace K := Aside0.mk (K.out.stored 3 rfl hs); clear hs))
    go_roundg (1)
    case measure => omega
    case rel => exact ⟨3, rfl, by omega, .inr (.inr (.inr (.inl ⟨rfl, v0, v1, _, ⟨K.out⟩⟩)))⟩
   ·have hb0 : decide (((3 : Nat) : Int) < 4) = true := rfl
    go_wp2_with (first
     | ((with_reducible refine gate_dst (N := 104) rfl ?_); refine load_mid_ev (i := 12) (cs := #[.int .i64 a1, .int .i64 e1, .int .i64 c1, .int .i64 f1]) rfl 23 (.tmp 103) rfl rfl (K.out.get 1 rfl) (fun j v hj => by rcases j with _ | _ | _ | _ | j <;> first | exact hj | (simp at hj)) Try.underlying23 rfl rfl ?_)
     | (go_at_call 60; (with_reducible refine (dwt_empty.calls  a1  e1  c1  f1  a1  e1  c1  f1 Z3 _ HE3.out).mono ?_); rintro _ w60 ⟨vz, rfl, hR, b⟩; obtain ⟨Az, dz, rfl⟩ := Kd.R_slice hR; replace K := Aside0.mk (K.out.add (below_size K.out.below) hR b); clear b hR)
     | ((with_reducible refine gate_store (t := 26) (p := 106) (v := .tmp 105) rfl ?_); refine store_mid_ev (cs := #[.int .i64 a1, .int .i64 e1, .int .i64 c1, .int .i64 f1, .slice Az Z3.length dz]) rfl rfl 26 (.tmp 106) (.tmp 105) rfl rfl (by kernel_rfl) (K.out.get 3 rfl) (Nat.le_of_ble_eq_true rfl) rfl (by first | (kernel_rfl) | (simp [Value.oneCell'])) (new := #[.int .i64 a0, .int .i64 e0, .int .i64 c0, .int .i64 f0, v0, .int .i64 a1, .int .i64 e0, .int .i64 c1, .int .i64 f0, v1, .int .i64 a0, .int .i64 e1, .int .i64 c0, .int .i64 f1, v2, .int .i64 a1, .int .i64 e1, .int .i64 c1, .int .i64 f1, (.slice Az Z3.length dz)]) rfl ?_; intro wS hs; replace K := Aside0.mk (K.out.stored 3 rfl hs); clear hs))
    go_roundg (0)
    case measure => omega
    case rel => exact ⟨4, rfl, by omega, .inr (.inr (.inr (.inr (⟨rfl, v0, v1, v2, _, ⟨K.out⟩⟩))))⟩
   ·have hb0 : decide (((4 : Nat) : Int) < 4) = false := rfl
    have hmf : ∀ (fn : Fn) (first cap : Array Value) (w : World), (Instr.makeFunc fn first cap).run Try.prog w = .ok (.func fn first cap) w := fun _ _ _ _ => rfl
    go_wp2
    clear hb0 hn HE0 HE1 HE2 HE3
    go_loopg [109] 2 (fun kq v109 w' => ∃ n : Nat, v109 = .int .i64 (n : Int) ∧ n + kq = 2 ∧ ((n = 0 ∧ Aside0 (Hold w.heap.size w w' [(g9, 78, #[.int .i64 a0, .int .i64 y0, .int .i64 c0, .int .i64 y1, .slice A0 P.length d0, .int .i64 a1, .int .i64 y0, .int .i64 c1, .int .i64 y1, .slice A1 Q.length d1]), (g8, 62, #[.int .i64 a0, .int .i64 e0, .int .i64 c0, .int .i64 f0, .int .i64 a1, .int .i64 e0, .int .i64 c1, .int .i64 f0, .int .i64 a0, .int .i64 e1, .int .i64 c0, .int .i64 f1, .int .i64 a1, .int .i64 e1, .int .i64 c1, .int .i64 f1]), (g7, 23, #[.int .i64 x0, .int .i64 y0, .int .i64 x1, .int .i64 y1]), (g6, 59, #[.int .i64 a0, .int .i64 e0, .int .i64 c0, .int .i64 f0, v0, .int .i64 a1, .int .i64 e0, .int .i64 c1, .int .i64 f0, v1, .int .i64 a0, .int .i64 e1, .int .i64 c0, .int .i64 f1, v2, .int .i64 a1, .int .i64 e1, .int .i64 c1, .int .i64 f1, v3]), (g4, 59, #[.int .i64 0, .int .i64 0, .int .i64 0, .int .i64 0, .slice none 0 0, .int .i64 0, .int .i64 0, .int .i64 0, .int .i64 0, .slice none 0 0, .int .i64 0, .int .i64 0, .int .i64 0, .int .i64 0, .slice none 0 0, .int .i64 0, .int .i64 0, .int .i64 0, .int .i64 0, .slice none 0 0]), (g3, 28, #[.int .i64 kk]), (g2, 26, #[.int .i64 x0, .int .i64 y0, .int .i64 x1, .int .i64 y1, .slice A D.length c])] [(v3, Z3), (v2, Z2), (v1, Z1), (v0, Z0), (.slice A0 P.length d0, P), (.slice A1 Q.length d1, Q)])) ∨ (n = 1 ∧ Aside0 (Hold w.heap.size w w' [(g9, 78, #[.int .i64 a0, .int .i64 y0, .int .i64 c0, .int .i64 y1, .slice A0 P.length d0, .int .i64 a1, .int .i64 y0, .int .i64 c1, .int .i64 y1, .slice A1 Q.length d1]), (g8, 62, #[.int .i64 a0, .int .i64 e0, .int .i64 c0, .int .i64 f0, .int .i64 a1, .int .i64 e0, .int .i64 c1, .int .i64 f0, .int .i64 a0, .int .i64 e1, .int .i64 c0, .int .i64 f1, .int .i64 a1, .int .i64 e1, .int .i64 c1, .int .i64 f1]), (g7, 23, #[.int .i64 x0, .int .i64 y0, .int .i64 x1, .int .i64 y1]), (g6, 59, #[.int .i64 a0, .int .i64 e0, .int .i64 c0, .int .i64 f0, v0, .int .i64 a1, .int .i64 e0, .int .i64 c1, .int .i64 f0, v1, .int .i64 a0, .int .i64 e1, .int .i64 c0, .int .i64 f1, v2, .int .i64 a1, .int .i64 e1, .int .i64 c1, .int .i64 f1, v3]), (g4, 59, #[.int .i64 0, .int .i64 0, .int .i64 0, .int .i64 0, .slice none 0 0, .int .i64 0, .int .i64 0, .int .i64 0, .int .i64 0, .slice none 0 0, .int .i64 0, .int .i64 0, .int .i64 0, .int .i64 0, .slice none 0 0, .int .i64 0, .int .i64 0, .int .i64 0, .int .i64 0, .slice none 0 0]), (g3, 28, #[.int .i64 kk]), (g2, 26, #[.int .i64 x0, .int .i64 y0, .int .i64 x1, .int .i64 y1, .slice A D.length c])] [(v3, Z3), (v2, G2), (v1, Z1), (v0, G0), (.slice A0 P.length d0, P), (.slice A1 Q.length d1, Q)])) ∨ (n = 2 ∧ Aside0 (Hold w.heap.size w w' [(g9, 78, #[.int .i64 a0, .int .i64 y0, .int .i64 c0, .int .i64 y1, .slice A0 P.length d0, .int .i64 a1, .int .i64 y0, .int .i64 c1, .int .i64 y1, .slice A1 Q.length d1]), (g8, 62, #[.int .i64 a0, .int .i64 e0, .int .i64 c0, .int .i64 f0, .int .i64 a1, .int .i64 e0, .int .i64 c1, .int .i64 f0, .int .i64 a0, .int .i64 e1, .int .i64 c0, .int .i64 f1, .int .i64 a1, .int .i64 e1, .int .i64 c1, .int .i64 f1]), (g7, 23, #[.int .i64 x0, .int .i64 y0, .int .i64 x1, .int .i64 y1]), (g6, 59, #[.int .i64 a0, .int .i64 e0, .int .i64 c0, .int .i64 f0, v0, .int .i64 a1, .int .i64 e0, .int .i64 c1, .int .i64 f0, v1, .int .i64 a0, .int .i64 e1, .int .i64 c0, .int .i64 f1, v2, .int .i64 a1, .int .i64 e1, .int .i64 c1, .int .i64 f1, v3]), (g4, 59, #[.int .i64 0, .int .i64 0, .int .i64 0, .int .i64 0, .slice none 0 0, .int .i64 0, .int .i64 0, .int .i64 0, .int .i64 0, .slice none 0 0, .int .i64 0, .int .i64 0, .int .i64 0, .int .i64 0, .slice none 0 0, .int .i64 0, .int .i64 0, .int .i64 0, .int .i64 0, .slice none 0 0]), (g3, 28, #[.int .i64 kk]), (g2, 26, #[.int .i64 x0, .int .i64 y0, .int .i64 x1, .int .i64 y1, .slice A D.length c])] [(v3, G3), (v2, G2), (v1, G1), (v0, G0), (.slice A0 P.length d0, P), (.slice A1 Q.length d1, Q)]))))
    case atStart => exact ⟨0, rfl, rfl, .inl ⟨rfl, K⟩⟩
    case round =>
    clear K
    obtain ⟨n, rfl, hn, hKK⟩ := hrel
    rcases hKK with ⟨rfl, K⟩ | ⟨rfl, K⟩ | ⟨rfl, K⟩
    ·have hb0 : decide (((0 : Nat) : Int) < 2) = true := rfl
     have PF0 : ([(g9, 78, #[.int .i64 a0, .int .i64 y0, .int .i64 c0, .int .i64 y1, .slice A0 P.length d0, .int .i64 a1, .int .i64 y0, .int .i64 c1, .int .i64 y1, .slice A1 Q.length d1]), (g8, 62, #[.int .i64 a0, .int .i64 e0, .int .i64 c0, .int .i64 f0, .int .i64 a1, .int .i64 e0, .int .i64 c1, .int .i64 f0, .int .i64 a0, .int .i64 e1, .int .i64 c0, .int .i64 f1, .int .i64 a1, .int .i64 e1, .int .i64 c1, .int .i64 f1]), (g7, 23, #[.int .i64 x0, .int .i64 y0, .int .i64 x1, .int .i64 y1]), (g6, 59, #[.int .i64 a0, .int .i64 e0, .int .i64 c0, .int .i64 f0, v0, .int .i64 a1, .int .i64 e0, .int .i64 c1, .int .i64 f0, v1, .int .i64 a0, .int .i64 e1, .int .i64 c0, .int .i64 f1, v2, .int .i64 a1, .int .i64 e1, .int .i64 c1, .int .i64 f1, v3]), (g4, 59, #[.int .i64 0, .int .i64 0, .int .i64 0, .int .i64 0, .slice none 0 0, .int .i64 0, .int .i64 0, .int .i64 0, .int .i64 0, .slice none 0 0, .int .i64 0, .int .i64 0, .int .i64 0, .int .i64 0, .slice none 0 0, .int .i64 0, .int .i64 0, .int .i64 0, .int .i64 0, .slice none 0 0]), (g3, 28, #[.int .i64 kk]), (g2, 26, #[.int .i64 x0, .int .i64 y0, .int .i64 x1, .int .i64 y1, .slice A D.length c])])[0]? = some (g9, 78, #[.int .i64 a0, .int .i64 y0, .int .i64 c0, .int .i64 y1, .slice A0 P.length d0, .int .i64 a1, .int .i64 y0, .int .i64 c1, .int .i64 y1, .slice A1 Q.length d1]) := rfl
     have PF1_0 : ∀ (j : Nat) (v : Value), (#[.int .i64 a0, .int .i64 y0, .int .i64 c0, .int .i64 y1, .slice A0 P.length d0] : Array Value)[j]? = some v → (#[.int .i64 a0, .int .i64 y0, .int .i64 c0, .int .i64 y1, .slice A0 P.length d0, .int .i64 a1, .int .i64 y0, .int .i64 c1, .int .i64 y1, .slice A1 Q.length d1] : Array Value)[0 + j]? = some v := by intro j v hj; rcases j with _ | _ | _ | _ | _ | j <;> first | exact hj | (simp at hj)
     have PF2 : ([(g9, 78, #[.int .i64 a0, .int .i64 y0, .int .i64 c0, .int .i64 y1, .slice A0 P.length d0, .int .i64 a1, .int .i64 y0, .int .i64 c1, .int .i64 y1, .slice A1 Q.length d1]), (g8, 62, #[.int .i64 a0, .int .i64 e0, .int .i64 c0, .int .i64 f0, .int .i64 a1, .int .i64 e0, .int .i64 c1, .int .i64 f0, .int .i64 a0, .int .i64 e1, .int .i64 c0, .int .i64 f1, .int .i64 a1, .int .i64 e1, .int .i64 c1, .int .i64 f1]), (g7, 23, #[.int .i64 x0, .int .i64 y0, .int .i64 x1, .int .i64 y1]), (g6, 59, #[.int .i64 a0, .int .i64 e0, .int .i64 c0, .int .i64 f0, v0, .int .i64 a1, .int .i64 e0, .int .i64 c1, .int .i64 f0, v1, .int .i64 a0, .int .i64 e1, .int .i64 c0, .int .i64 f1, v2, .int .i64 a1, .int .i64 e1, .int .i64 c1, .int .i64 f1, v3]), (g4, 59, #[.int .i64 0, .int .i64 0, .int .i64 0, .int .i64 0, .slice none 0 0, .int .i64 0, .int .i64 0, .int .i64 0, .int .i64 0, .slice none 0 0, .int .i64 0, .int .i64 0, .int .i64 0, .int .i64 0, .slice none 0 0, .int .i64 0, .int .i64 0, .int .i64 0, .int .i64 0, .slice none 0 0]), (g3, 28, #[.int .i64 kk]), (g2, 26, #[.int .i64 x0, .int .i64 y0, .int .i64 x1, .int .i64 y1, .slice A D.length c])])[2]? = some (g7, 23, #[.int .i64 x0, .int .i64 y0, .int .i64 x1, .int .i64 y1]) := rfl
     have PF3 : (#[.int .i64 x0, .int .i64 y0, .int .i64 x1, .int .i64 y1] : Array Value)[1]? = some (.int .i64 y0) := rfl
     have PF4 : ([(g9, 78, #[.int .i64 a0, .int .i64 y0, .int .i64 c0, .int .i64 y1, .slice A0 P.length d0, .int .i64 a1, .int .i64 y0, .int .i64 c1, .int .i64 y1, .slice A1 Q.length d1]), (g8, 62, #[.int .i64 a0, .int .i64 e0, .int .i64 c0, .int .i64 f0, .int .i64 a1, .int .i64 e0, .int .i64 c1, .int .i64 f0, .int .i64 a0, .int .i64 e1, .int .i64 c0, .int .i64 f1, .int .i64 a1, .int .i64 e1, .int .i64 c1, .int .i64 f1]), (g7, 23, #[.int .i64 x0, .int .i64 y0, .int .i64 x1, .int .i64 y1]), (g6, 59, #[.int .i64 a0, .int .i64 e0, .int .i64 c0, .int .i64 f0, v0, .int .i64 a1, .int .i64 e0, .int .i64 c1, .int .i64 f0, v1, .int .i64 a0, .int .i64 e1, .int .i64 c0, .int .i64 f1, v2, .int .i64 a1, .int .i64 e1, .int .i64 c1, .int .i64 f1, v3]), (g4, 59, #[.int .i64 0, .int .i64 0, .int .i64 0, .int .i64 0, .slice none 0 0, .int .i64 0, .int .i64 0, .int .i64 0, .int .i64 0, .slice none 0 0, .int .i64 0, .int .i64 0, .int .i64 0, .int .i64 0, .slice none 0 0, .int .i64 0, .int .i64 0, .int .i64 0, .int .i64 0, .slice none 0 0]), (g3, 28, #[.int .i64 kk]), (g2, 26, #[.int .i64 x0, .int .i64 y0, .int .i64 x1, .int .i64 y1, .slice A D.length c])])[5]? = some (g3, 28, #[.int .i64 kk]) := rfl
     have PF5 : ([(g9, 78, #[.int .i64 a0, .int .i64 y0, .int .i64 c0, .int .i64 y1, .slice A0 P.length d0, .int .i64 a1, .int .i64 y0, .int .i64 c1, .int .i64 y1, .slice A1 Q.length d1]), (g8, 62, #[.int .i64 a0, .int .i64 e0, .int .i64 c0, .int .i64 f0, .int .i64 a1, .int .i64 e0, .int .i64 c1, .int .i64 f0, .int .i64 a0, .int .i64 e1, .int .i64 c0, .int .i64 f1, .int .i64 a1, .int .i64 e1, .int .i64 c1, .int .i64 f1]), (g7, 23, #[.int .i64 x0, .int .i64 y0, .int .i64 x1, .int .i64 y1]), (g6, 59, #[.int .i64 a0, .int .i64 e0, .int .i64 c0, .int .i64 f0, v0, .int .i64 a1, .int .i64 e0, .int .i64 c1, .int .i64 f0, v1, .int .i64 a0, .int .i64 e1, .int .i64 c0, .int .i64 f1, v2, .int .i64 a1, .int .i64 e1, .int .i64 c1, .int .i64 f1, v3]), (g4, 59, #[.int .i64 0, .int .i64 0, .int .i64 0, .int .i64 0, .slice none 0 0, .int .i64 0, .int .i64 0, .int .i64 0, .int .i64 0, .slice none 0 0, .int .i64 0, .int .i64 0, .int .i64 0, .int .i64 0, .slice none 0 0, .int .i64 0, .int .i64 0, .int .i64 0, .int .i64 0, .slice none 0 0]), (g3, 28, #[.int .i64 kk]), (g2, 26, #[.int .i64 x0, .int .i64 y0, .int .i64 x1, .int .i64 y1, .slice A D.length c])])[3]? = some (g6, 59, #[.int .i64 a0, .int .i64 e0, .int .i64 c0, .int .i64 f0, v0, .int .i64 a1, .int .i64 e0, .int .i64 c1, .int .i64 f0, v1, .int .i64 a0, .int .i64 e1, .int .i64 c0, .int .i64 f1, v2, .int .i64 a1, .int .i64 e1, .int .i64 c1, .int .i64 f1, v3]) := rfl
     have PF6_0 : (#[.int .i64 a0, .int .i64 e0, .int .i64 c0, .int .i64 f0, v0, .int .i64 a1, .int .i64 e0, .int .i64 c1, .int .i64 f0, v1, .int .i64 a0, .int .i64 e1, .int .i64 c0, .int .i64 f1, v2, .int .i64 a1, .int .i64 e1, .int .i64 c1, .int .i64 f1, v3] : Array Value)[0]? = some (.int .i64 a0) ∧ (#[.int .i64 a0, .int .i64 e0, .int .i64 c0, .int .i64 f0, v0, .int .i64 a1, .int .i64 e0, .int .i64 c1, .int .i64 f0, v1, .int .i64 a0, .int .i64 e1, .int .i64 c0, .int .i64 f1, v2, .int .i64 a1, .int .i64 e1, .int .i64 c1, .int .i64 f1, v3] : Array Value)[0+2]? = some (.int .i64 c0) ∧ (#[.int .i64 a0, .int .i64 e0, .int .i64 c0, .int .i64 f0, v0, .int .i64 a1, .int .i64 e0, .int .i64 c1, .int .i64 f0, v1, .int .i64 a0, .int .i64 e1, .int .i64 c0, .int .i64 f1, v2, .int .i64 a1, .int .i64 e1, .int .i64 c1, .int .i64 f1, v3] : Array Value)[0+4]? = some v0 := ⟨rfl, rfl, rfl⟩
     have PF7_0 : (#[.int .i64 a0, .int .i64 e0, .int .i64 c0, .int .i64 f0, v0, .int .i64 a1, .int .i64 e0, .int .i64 c1, .int .i64 f0, v1, .int .i64 a0, .int .i64 e1, .int .i64 c0, .int .i64 f1, v2, .int .i64 a1, .int .i64 e1, .int .i64 c1, .int .i64 f1, v3] : Array Value)[10]? = some (.int .i64 a0) ∧ (#[.int .i64 a0, .int .i64 e0, .int .i64 c0, .int .i64 f0, v0, .int .i64 a1, .int .i64 e0, .int .i64 c1, .int .i64 f0, v1, .int .i64 a0, .int .i64 e1, .int .i64 c0, .int .i64 f1, v2, .int .i64 a1, .int .i64 e1, .int .i64 c1, .int .i64 f1, v3] : Array Value)[10+2]? = some (.int .i64 c0) ∧ (#[.int .i64 a0, .int .i64 e0, .int .i64 c0, .int .i64 f0, v0, .int .i64 a1, .int .i64 e0, .int .i64 c1, .int .i64 f0, v1, .int .i64 a0, .int .i64 e1, .int .i64 c0, .int .i64 f1, v2, .int .i64 a1, .int .i64 e1, .int .i64 c1, .int .i64 f1, v3] : Array Value)[10+4]? = some v2 := ⟨rfl, rfl, rfl⟩
     have PR0_0 : ([(v3, Z3), (v2, Z2), (v1, Z1), (v0, Z0), (.slice A0 P.length d0, P), (.slice A1 Q.length d1, Q)])[4]? = some (.slice A0 P.length d0, P) := rfl
     have PR1_0 : ([(v3, Z3), (v2, Z2), (v1, Z1), (v0, Z0), (.slice A0 P.length d0, P), (.slice A1 Q.length d1, Q)])[3]? = some (v0, Z0) := rfl
     have PR2_0 : ([(v3, Z3), (v2, Z2), (v1, Z1), (v0, Z0), (.slice A0 P.length d0, P), (.slice A1 Q.length d1, Q)])[1]? = some (v2, Z2) := rfl
     have PJ_0 : 3 ≠ 4 ∧ 1 ≠ 4 ∧ 3 ≠ 1 := by decide
     go_wp2_with (first
      | (go_at_call 61; (with_reducible refine (dwt_Split1_0.good k ks kk a0 y0 c0 y1 A0 d0 P Z0 Z2 G0 G2 v0 v2 w.heap.size w _ _ _ 0 2 5 3 g9 g7 g3 g6 4 3 1 #[.int .i64 a0, .int .i64 y0, .int .i64 c0, .int .i64 y1, .slice A0 P.length d0, .int .i64 a1, .int .i64 y0, .int .i64 c1, .int .i64 y1, .slice A1 Q.length d1] #[.int .i64 x0, .int .i64 y0, .int .i64 x1, .int .i64 y1] #[.int .i64 a0, .int .i64 e0, .int .i64 c0, .int .i64 f0, v0, .int .i64 a1, .int .i64 e0, .int .i64 c1, .int .i64 f0, v1, .int .i64 a0, .int .i64 e1, .int .i64 c0, .int .i64 f1, v2, .int .i64 a1, .int .i64 e1, .int .i64 c1, .int .i64 f1, v3] K.out rfl PF0 PF1_0 PF2 PF3 PF4 PF5 PF6_0 PF7_0 PR0_0 PR1_0 PR2_0 PJ_0 HV0.out HKK.out.1 HKK.out.2 HS0.out).mono ?_); rintro _ w61 ⟨rfl, hH⟩; clear K; have K := Aside0.mk hH; clear hH))
     go_roundg (1)
     case measure => omega
     case rel => exact ⟨1, rfl, by omega, .inr (.inl ⟨rfl, ⟨K.out⟩⟩)⟩
    ·have hb0 : decide (((1 : Nat) : Int) < 2) = true := rfl
     have PF0 : ([(g9, 78, #[.int .i64 a0, .int .i64 y0, .int .i64 c0, .int .i64 y1, .slice A0 P.length d0, .int .i64 a1, .int .i64 y0, .int .i64 c1, .int .i64 y1, .slice A1 Q.length d1]), (g8, 62, #[.int .i64 a0, .int .i64 e0, .int .i64 c0, .int .i64 f0, .int .i64 a1, .int .i64 e0, .int .i64 c1, .int .i64 f0, .int .i64 a0, .int .i64 e1, .int .i64 c0, .int .i64 f1, .int .i64 a1, .int .i64 e1, .int .i64 c1, .int .i64 f1]), (g7, 23, #[.int .i64 x0, .int .i64 y0, .int .i64 x1, .int .i64 y1]), (g6, 59, #[.int .i64 a0, .int .i64 e0, .int .i64 c0, .int .i64 f0, v0, .int .i64 a1, .int .i64 e0, .int .i64 c1, .int .i64 f0, v1, .int .i64 a0, .int .i64 e1, .int .i64 c0, .int .i64 f1, v2, .int .i64 a1, .int .i64 e1, .int .i64 c1, .int .i64 f1, v3]), (g4, 59, #[.int .i64 0, .int .i64 0, .int .i64 0, .int .i64 0, .slice none 0 0, .int .i64 0, .int .i64 0, .int .i64 0, .int .i64 0, .slice none 0 0, .int .i64 0, .int .i64 0, .int .i64 0, .int .i64 0, .slice none 0 0, .int .i64 0, .int .i64 0, .int .i64 0, .int .i64 0, .slice none 0 0]), (g3, 28, #[.int .i64 kk]), (g2, 26, #[.int .i64 x0, .int .i64 y0, .int .i64 x1, .int .i64 y1, .slice A D.length c])])[0]? = some (g9, 78, #[.int .i64 a0, .int .i64 y0, .int .i64 c0, .int .i64 y1, .slice A0 P.length d0, .int .i64 a1, .int .i64 y0, .int .i64 c1, .int .i64 y1, .slice A1 Q.length d1]) := rfl
     have PF1_1 : ∀ (j : Nat) (v : Value), (#[.int .i64 a1, .int .i64 y0, .int .i64 c1, .int .i64 y1, .slice A1 Q.length d1] : Array Value)[j]? = some v → (#[.int .i64 a0, .int .i64 y0, .int .i64 c0, .int .i64 y1, .slice A0 P.length d0, .int .i64 a1, .int .i64 y0, .int .i64 c1, .int .i64 y1, .slice A1 Q.length d1] : Array Value)[5 + j]? = some v := by intro j v hj; rcases j with _ | _ | _ | _ | _ | j <;> first | exact hj | (simp at hj)
     have PF2 : ([(g9, 78, #[.int .i64 a0, .int .i64 y0, .int .i64 c0, .int .i64 y1, .slice A0 P.length d0, .int .i64 a1, .int .i64 y0, .int .i64 c1, .int .i64 y1, .slice A1 Q.length d1]), (g8, 62, #[.int .i64 a0, .int .i64 e0, .int .i64 c0, .int .i64 f0, .int .i64 a1, .int .i64 e0, .int .i64 c1, .int .i64 f0, .int .i64 a0, .int .i64 e1, .int .i64 c0, .int .i64 f1, .int .i64 a1, .int .i64 e1, .int .i64 c1, .int .i64 f1]), (g7, 23, #[.int .i64 x0, .int .i64 y0, .int .i64 x1, .int .i64 y1]), (g6, 59, #[.int .i64 a0, .int .i64 e0, .int .i64 c0, .int .i64 f0, v0, .int .i64 a1, .int .i64 e0, .int .i64 c1, .int .i64 f0, v1, .int .i64 a0, .int .i64 e1, .int .i64 c0, .int .i64 f1, v2, .int .i64 a1, .int .i64 e1, .int .i64 c1, .int .i64 f1, v3]), (g4, 59, #[.int .i64 0, .int .i64 0, .int .i64 0, .int .i64 0, .slice none 0 0, .int .i64 0, .int .i64 0, .int .i64 0, .int .i64 0, .slice none 0 0, .int .i64 0, .int .i64 0, .int .i64 0, .int .i64 0, .slice none 0 0, .int .i64 0, .int .i64 0, .int .i64 0, .int .i64 0, .slice none 0 0]), (g3, 28, #[.int .i64 kk]), (g2, 26, #[.int .i64 x0, .int .i64 y0, .int .i64 x1, .int .i64 y1, .slice A D.length c])])[2]? = some (g7, 23, #[.int .i64 x0, .int .i64 y0, .int .i64 x1, .int .i64 y1]) := rfl
     have PF3 : (#[.int .i64 x0, .int .i64 y0, .int .i64 x1, .int .i64 y1] : Array Value)[1]? = some (.int .i64 y0) := rfl
     have PF4 : ([(g9, 78, #[.int .i64 a0, .int .i64 y0, .int .i64 c0, .int .i64 y1, .slice A0 P.length d0, .int .i64 a1, .int .i64 y0, .int .i64 c1, .int .i64 y1, .slice A1 Q.length d1]), (g8, 62, #[.int .i64 a0, .int .i64 e0, .int .i64 c0, .int .i64 f0, .int .i64 a1, .int .i64 e0, .int .i64 c1, .int .i64 f0, .int .i64 a0, .int .i64 e1, .int .i64 c0, .int .i64 f1, .int .i64 a1, .int .i64 e1, .int .i64 c1, .int .i64 f1]), (g7, 23, #[.int .i64 x0, .int .i64 y0, .int .i64 x1, .int .i64 y1]), (g6, 59, #[.int .i64 a0, .int .i64 e0, .int .i64 c0, .int .i64 f0, v0, .int .i64 a1, .int .i64 e0, .int .i64 c1, .int .i64 f0, v1, .int .i64 a0, .int .i64 e1, .int .i64 c0, .int .i64 f1, v2, .int .i64 a1, .int .i64 e1, .int .i64 c1, .int .i64 f1, v3]), (g4, 59, #[.int .i64 0, .int .i64 0, .int .i64 0, .int .i64 0, .slice none 0 0, .int .i64 0, .int .i64 0, .int .i64 0, .int .i64 0, .slice none 0 0, .int .i64 0, .int .i64 0, .int .i64 0, .int .i64 0, .slice none 0 0, .int .i64 0, .int .i64 0, .int .i64 0, .int .i64 0, .slice none 0 0]), (g3, 28, #[.int .i64 kk]), (g2, 26, #[.int .i64 x0, .int .i64 y0, .int .i64 x1, .int .i64 y1, .slice A D.length c])])[5]? = some (g3, 28, #[.int .i64 kk]) := rfl
     have PF5 : ([(g9, 78, #[.int .i64 a0, .int .i64 y0, .int .i64 c0, .int .i64 y1, .slice A0 P.length d0, .int .i64 a1, .int .i64 y0, .int .i64 c1, .int .i64 y1, .slice A1 Q.length d1]), (g8, 62, #[.int .i64 a0, .int .i64 e0, .int .i64 c0, .int .i64 f0, .int .i64 a1, .int .i64 e0, .int .i64 c1, .int .i64 f0, .int .i64 a0, .int .i64 e1, .int .i64 c0, .int .i64 f1, .int .i64 a1, .int .i64 e1, .int .i64 c1, .int .i64 f1]), (g7, 23, #[.int .i64 x0, .int .i64 y0, .int .i64 x1, .int .i64 y1]), (g6, 59, #[.int .i64 a0, .int .i64 e0, .int .i64 c0, .int .i64 f0, v0, .int .i64 a1, .int .i64 e0, .int .i64 c1, .int .i64 f0, v1, .int .i64 a0, .int .i64 e1, .int .i64 c0, .int .i64 f1, v2, .int .i64 a1, .int .i64 e1, .int .i64 c1, .int .i64 f1, v3]), (g4, 59, #[.int .i64 0, .int .i64 0, .int .i64 0, .int .i64 0, .slice none 0 0, .int .i64 0, .int .i64 0, .int .i64 0, .int .i64 0, .slice none 0 0, .int .i64 0, .int .i64 0, .int .i64 0, .int .i64 0, .slice none 0 0, .int .i64 0, .int .i64 0, .int .i64 0, .int .i64 0, .slice none 0 0]), (g3, 28, #[.int .i64 kk]), (g2, 26, #[.int .i64 x0, .int .i64 y0, .int .i64 x1, .int .i64 y1, .slice A D.length c])])[3]? = some (g6, 59, #[.int .i64 a0, .int .i64 e0, .int .i64 c0, .int .i64 f0, v0, .int .i64 a1, .int .i64 e0, .int .i64 c1, .int .i64 f0, v1, .int .i64 a0, .int .i64 e1, .int .i64 c0, .int .i64 f1, v2, .int .i64 a1, .int .i64 e1, .int .i64 c1, .int .i64 f1, v3]) := rfl
     have PF6_1 : (#[.int .i64 a0, .int .i64 e0, .int .i64 c0, .int .i64 f0, v0, .int .i64 a1, .int .i64 e0, .int .i64 c1, .int .i64 f0, v1, .int .i64 a0, .int .i64 e1, .int .i64 c0, .int .i64 f1, v2, .int .i64 a1, .int .i64 e1, .int .i64 c1, .int .i64 f1, v3] : Array Value)[5]? = some (.int .i64 a1) ∧ (#[.int .i64 a0, .int .i64 e0, .int .i64 c0, .int .i64 f0, v0, .int .i64 a1, .int .i64 e0, .int .i64 c1, .int .i64 f0, v1, .int .i64 a0, .int .i64 e1, .int .i64 c0, .int .i64 f1, v2, .int .i64 a1, .int .i64 e1, .int .i64 c1, .int .i64 f1, v3] : Array Value)[5+2]? = some (.int .i64 c1) ∧ (#[.int .i64 a0, .int .i64 e0, .int .i64 c0, .int .i64 f0, v0, .int .i64 a1, .int .i64 e0, .int .i64 c1, .int .i64 f0, v1, .int .i64 a0, .int .i64 e1, .int .i64 c0, .int .i64 f1, v2, .int .i64 a1, .int .i64 e1, .int .i64 c1, .int .i64 f1, v3] : Array Value)[5+4]? = some v1 := ⟨rfl, rfl, rfl⟩
     have PF7_1 : (#[.int .i64 a0, .int .i64 e0, .int .i64 c0, .int .i64 f0, v0, .int .i64 a1, .int .i64 e0, .int .i64 c1, .int .i64 f0, v1, .int .i64 a0, .int .i64 e1, .int .i64 c0, .int .i64 f1, v2, .int .i64 a1, .int .i64 e1, .int .i64 c1, .int .i64 f1, v3] : Array Value)[15]? = some (.int .i64 a1) ∧ (#[.int .i64 a0, .int .i64 e0, .int .i64 c0, .int .i64 f0, v0, .int .i64 a1, .int .i64 e0, .int .i64 c1, .int .i64 f0, v1, .int .i64 a0, .int .i64 e1, .int .i64 c0, .int .i64 f1, v2, .int .i64 a1, .int .i64 e1, .int .i64 c1, .int .i64 f1, v3] : Array Value)[15+2]? = some (.int .i64 c1) ∧ (#[.int .i64 a0, .int .i64 e0, .int .i64 c0, .int .i64 f0, v0, .int .i64 a1, .int .i64 e0, .int .i64 c1, .int .i64 f0, v1, .int .i64 a0, .int .i64 e1, .int .i64 c0, .int .i64 f1, v2, .int .i64 a1, .int .i64 e1, .int .i64 c1, .int .i64 f1, v3] : Array Value)[15+4]? = some v3 := ⟨rfl, rfl, rfl⟩
     have PR0_1 : ([(v3, Z3), (v2, G2), (v1, Z1), (v0, G0), (.slice A0 P.length d0, P), (.slice A1 Q.length d1, Q)])[5]? = some (.slice A1 Q.length d1, Q) := rfl
     have PR1_1 : ([(v3, Z3), (v2, G2), (v1, Z1), (v0, G0), (.slice A0 P.length d0, P), (.slice A1 Q.length d1, Q)])[2]? = some (v1, Z1) := rfl
     have PR2_1 : ([(v3, Z3), (v2, G2), (v1, Z1), (v0, G0), (.slice A0 P.length d0, P), (.slice A1 Q.length d1, Q)])[0]? = some (v3, Z3) := rfl
     have PJ_1 : 2 ≠ 5 ∧ 0 ≠ 5 ∧ 2 ≠ 0 := by decide
     go_wp2_with (first
      | (go_at_call 61; (with_reducible refine (dwt_Split1_1.good k ks kk a1 y0 c1 y1 A1 d1 Q Z1 Z3 G1 G3 v1 v3 w.heap.size w _ _ _ 0 2 5 3 g9 g7 g3 g6 5 2 0 #[.int .i64 a0, .int .i64 y0, .int .i64 c0, .int .i64 y1, .slice A0 P.length d0, .int .i64 a1, .int .i64 y0, .int .i64 c1, .int .i64 y1, .slice A1 Q.length d1] #[.int .i64 x0, .int .i64 y0, .int .i64 x1, .int .i64 y1] #[.int .i64 a0, .int .i64 e0, .int .i64 c0, .int .i64 f0, v0, .int .i64 a1, .int .i64 e0, .int .i64 c1, .int .i64 f0, v1, .int .i64 a0, .int .i64 e1, .int .i64 c0, .int .i64 f1, v2, .int .i64 a1, .int .i64 e1, .int .i64 c1, .int .i64 f1, v3] K.out rfl PF0 PF1_1 PF2 PF3 PF4 PF5 PF6_1 PF7_1 PR0_1 PR1_1 PR2_1 PJ_1 HV1.out HKK.out.1 HKK.out.2 HS1.out).mono ?_); rintro _ w61 ⟨rfl, hH⟩; clear K; have K := Aside0.mk hH; clear hH))
     go_roundg (0)
     case measure => omega
     case rel => exact ⟨2, rfl, by omega, .inr (.inr ⟨rfl, ⟨K.out⟩⟩)⟩
    ·have hb0 : decide (((2 : Nat) : Int) < 2) = false := rfl
     obtain ⟨B0, b0, rfl⟩ := Kd.R_slice (K.out.rowAt 3 rfl)
     obtain ⟨B1, b1, rfl⟩ := Kd.R_slice (K.out.rowAt 2 rfl)
     obtain ⟨B2, b2, rfl⟩ := Kd.R_slice (K.out.rowAt 1 rfl)
     obtain ⟨B3, b3, rfl⟩ := Kd.R_slice (K.out.rowAt 0 rfl)
     go_wp2_with (first
      | ((with_reducible refine gate_dst (N := 120) rfl ?_); refine load_all_ev rfl 59 (.tmp 6) rfl rfl (K.out.get 3 rfl) Try.underlying59 rfl rfl ?_)
      | ((with_reducible refine gate_store (t := 59) (p := 4) (v := .tmp 120) rfl ?_); refine store_ev rfl rfl 59 (.tmp 4) (.tmp 120) rfl rfl rfl (K.out.get 4 rfl) rfl rfl (by kernel_rfl) ?_; intro W8 hs; replace K := Aside0.mk (K.out.stored 4 rfl hs); clear hs))
     refine bodyPost_ret (results_ct rfl _ _ g4 59 _ (0, 0) _ rfl (K.out.get 4 rfl) Try.underlying59 rfl (by kernel_rfl)) rfl ?_
     exact ⟨_, _, _, _, rfl, (K.out.noBlk).pick [3, 2, 1, 0] (by decide) rfl⟩
end Go.Proofs.Ytcnpekpgghppnaa.Q
namespace Go.Proofs.Ytcnpekpgghppnaa.Q
open Go.RowKit Go.Proofs.YtcnpekpgghppnaaW.PrintWords Go.Proofs.YtcnpekpgghppnaaW.PrintLast Go.Proofs.YtcnpekpgghppnaaW.PrintMore
attribute [local go_sem] max2_int min2_int max_two min_two max_three min_three max_four min_four
set_option linter.unusedVariables false
set_option linter.unusedSimpArgs false
theorem eqA23 (d : Nat) (w : World) (x0 y0 : Int) (x1 y1 : Int) (x2 y2 : Int) (x3 y3 : Int) :
  (Op.equalIn (d + 2) 23 (.agg #[.int .i64 x0, .int .i64 x1, .int .i64 x2, .int .i64 x3]) (.agg #[.int .i64 y0, .int .i64 y1, .int .i64 y2, .int .i64 y3])).run Try.prog w = .ok (x0 == y0 && (x1 == y1 && (x2 == y2 && (x3 == y3)))) w := by
 refine eqA_of Try.underlying23 (by kernel_rfl) ?_
 refine eqf_cons (by rfl) (by go_simp; rfl) (by go_simp; rfl) (by go_simp) ?_
 refine eqf_cons (by rfl) (by go_simp; rfl) (by go_simp; rfl) (by go_simp) ?_
 refine eqf_cons (by rfl) (by go_simp; rfl) (by go_simp; rfl) (by go_simp) ?_
 exact eqf_last (by rfl) (by go_simp; rfl) (by go_simp; rfl) (by go_simp)
end Go.Proofs.Ytcnpekpgghppnaa.Q
