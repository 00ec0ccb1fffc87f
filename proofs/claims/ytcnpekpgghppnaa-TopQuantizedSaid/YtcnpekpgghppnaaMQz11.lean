/- The law TopQuantized: its bytes are bytes, so it answers true. Texts of this session, merged by wip/tools/merge.py. -/
import Derived.Test.YtcnpekpgghppnaaMQz10
import Derived.Test.YtcnpekpgghppnaaMQz9
import Derived.Test.YtcnpekpgghppnaaMQz0
import Derived.ChangeArms
import Derived.SizedLaws
import Derived.Test.YtcnpekpgghppnaaRows
import Derived.WalkKit
import Derived.ProofKit
import Derived.OpenShut
import Derived.ShutString
import Derived.ChangeOld
import Derived.Below
import Derived.Carry
/- The plain law of the guards, of the quantizer at step 1, and of the comparison. -/
namespace Go.Proofs.Ytcnpekpgghppnaa.Q
open Go.RowKit Go.Proofs.YtcnpekpgghppnaaW.PrintWords Go.Proofs.YtcnpekpgghppnaaW.PrintLast Go.Proofs.YtcnpekpgghppnaaW.PrintMore
set_option linter.unusedVariables false
set_option linter.unusedSimpArgs false

/-! ### a small plane -/
theorem valid01 (x0 y0 x1 y1 : Int) : ∃ r, waveletref01_Valid.f x0 y0 x1 y1 = some r ∧ (r = true → (0 ≤ x0 ∧ x0 ≤ x1 ∧ x1 ≤ 4096) ∧ (0 ≤ y0 ∧ y0 ≤ y1 ∧ y1 ≤ 4096)) := by
  unfold waveletref01_Valid.f
  split
  · split
    · split
      · split
        · split
          · exact ⟨_, rfl, fun h => by have := of_decide_eq_true h; omega⟩
          · exact ⟨_, rfl, fun h => by cases h⟩
        · exact ⟨_, rfl, fun h => by cases h⟩
      · exact ⟨_, rfl, fun h => by cases h⟩
    · exact ⟨_, rfl, fun h => by cases h⟩
  · exact ⟨_, rfl, fun h => by cases h⟩
theorem valid02 (x0 y0 x1 y1 : Int) (D : List Int) : ∃ r, waveletref02_Valid.f x0 y0 x1 y1 D = some r ∧ (r = true → PV x0 y0 x1 y1 D) := by
  obtain ⟨r, h, hr⟩ := valid01 x0 y0 x1 y1
  unfold waveletref02_Valid.f waveletref01_Area.f
  rw [h]
  simp only [Option.bind_some]
  cases r with
  | false =>
    simp only [Bool.false_eq_true, if_false, Option.bind_some]
    exact ⟨_, rfl, fun h => by cases h⟩
  | true =>
    obtain ⟨⟨a1, a2, a3⟩, ⟨b1, b2, b3⟩⟩ := hr rfl
    simp only [if_true, Option.bind_some]
    obtain ⟨w, hw⟩ := Int.eq_ofNat_of_zero_le (show 0 ≤ x1 - x0 by omega)
    obtain ⟨m, hm⟩ := Int.eq_ofNat_of_zero_le (show 0 ≤ y1 - y0 by omega)
    have hwm : m * w ≤ 4096 * 4096 := Nat.mul_le_mul (by omega) (by omega)
    rw [show wrap64 (x1 - x0) = (w : Int) by rw [wid (by omega) (by omega)]; omega, show wrap64 (y1 - y0) = (m : Int) by rw [wid (by omega) (by omega)]; omega, ← Int.natCast_mul, Nat.mul_comm, wid (by omega) (by omega)]
    split
    · refine ⟨_, rfl, fun h => ?_⟩
      have h := eq_of_beq h
      exact PV.of_nat ⟨a1, a3⟩ ⟨b1, b3⟩ (w := w) (m := m) (by omega) (by omega) (by omega) (by omega)
    · exact ⟨_, rfl, fun h => by cases h⟩
theorem small_l0 (D : List Int) (hl : D.length ≤ 1000000) : ∀ (k i : Nat), i ≤ D.length → D.length < k + i → ∃ r, wavelettop_smallPlane.l0 k D (D.length : Int) (i : Int) = some r ∧ (r = true → ∀ j : Nat, i ≤ j → j < D.length → -65536 ≤ rd D (j : Int) ∧ rd D (j : Int) ≤ 65536)
  | 0, i, hi, hk => by omega
  | k + 1, i, hi, hk => by
    rw [wavelettop_smallPlane.l0.eq_2]
    by_cases c : i < D.length
    · rw [if_pos (by omega), if_pos (by omega), if_pos (by omega)]
      by_cases c1 : rd D (i : Int) < -65536
      · rw [if_pos c1]
        exact ⟨_, rfl, fun h => by cases h⟩
      · rw [if_neg c1]
        by_cases c2 : rd D (i : Int) > 65536
        · rw [if_pos c2]
          exact ⟨_, rfl, fun h => by cases h⟩
        · rw [if_neg c2, show wrap64 ((i : Int) + 1) = ((i + 1 : Nat) : Int) from wid (by omega) (by omega)]
          obtain ⟨r, h1, h2⟩ := small_l0 D hl k (i + 1) (by omega) (by omega)
          refine ⟨r, h1, fun hr j hj hjl => ?_⟩
          by_cases e : j = i
          · subst e
            omega
          · exact h2 hr j (by omega) hjl
    · rw [if_neg (by omega)]
      exact ⟨_, rfl, fun _ j hj hjl => by omega⟩
theorem small_total (x0 y0 x1 y1 : Int) (D : List Int) : ∃ k r, wavelettop_smallPlane.f k x0 y0 x1 y1 D = some r ∧ (r = true → PV x0 y0 x1 y1 D ∧ D.length ≤ 900 ∧ Bd 65536 D) := by
  obtain ⟨r, h, hr⟩ := valid02 x0 y0 x1 y1 D
  unfold wavelettop_smallPlane.f
  rw [h]
  simp only [Option.bind_some]
  cases r with
  | false =>
    refine ⟨1, false, ?_, fun h => by cases h⟩
    rw [if_neg (by decide), wavelettop_smallPlane.j0.eq_2, if_pos rfl]
  | true =>
    by_cases c : (D.length : Int) > 900
    · refine ⟨1, false, ?_, fun h => by cases h⟩
      rw [if_pos rfl, decide_eq_true c, wavelettop_smallPlane.j0.eq_2, if_pos rfl]
    · obtain ⟨q, h1, h2⟩ := small_l0 D (by omega) (D.length + 1) 0 (by omega) (by omega)
      refine ⟨D.length + 1 + 1, q, ?_, fun hq => ⟨hr rfl, by omega, Bd.of_rd fun i hi => h2 hq i (by omega) hi⟩⟩
      rw [if_pos rfl, decide_eq_false c, wavelettop_smallPlane.j0.eq_2, if_neg (by decide)]
      exact h1
theorem known_total (kk : Int) : ∃ r, wavelettop_knownKernel.f kk = some r ∧ (r = true → 1 ≤ kk ∧ kk ≤ 3) := by
  unfold wavelettop_knownKernel.f
  split
  · exact ⟨_, rfl, fun h => by have := of_decide_eq_true h; omega⟩
  · exact ⟨_, rfl, fun h => by cases h⟩

/-! ### the quantizer with the step 1 -/
theorem qvalid {d : Int} (h0 : 8 ≤ d) (h1 : d ≤ 31) : quant_Valid.f 1 d = some true := by
  unfold quant_Valid.f
  rw [if_pos (by omega), if_pos (by omega), if_pos (by omega), decide_eq_true (by omega)]
theorem qthr {d : Int} (h0 : 8 ≤ d) (h1 : d ≤ 31) : quant_Threshold.f 1 d = some 1 := by
  unfold quant_Threshold.f
  rw [qvalid h0 h1, Option.bind_some, if_pos rfl]
  congr 1
  rw [Int.one_mul, wid (n := d) (by omega) (by omega), Int.tdiv_eq_ediv_of_nonneg (by omega), wid (by omega) (by omega)]
  unfold mx
  split <;> omega
theorem qgood {d : Int} (h0 : 8 ≤ d) (h1 : d ≤ 31) : quant_good.f 0 1 d = some true := by
  unfold quant_good.f
  rw [qvalid h0 h1]
  rfl
theorem quantize_one {c d : Int} (h0 : 8 ≤ d) (h1 : d ≤ 31) (h2 : -4294967296 ≤ c) (h3 : c ≤ 4294967296) : quant_Quantize.f c 1 d = some c := by
  unfold quant_Quantize.f
  rw [qvalid h0 h1, Option.bind_some, if_pos rfl, limit_in (by omega) (by omega), Option.bind_some, qthr h0 h1, Option.bind_some]
  by_cases c1 : c ≥ 1
  · rw [if_pos c1, if_neg (by decide), wid (n := c - 1) (by omega) (by omega), Int.tdiv_one, wid (n := c - 1) (by omega) (by omega), wid (by omega) (by omega)]
    congr 1
    omega
  · rw [if_neg c1, show wrap64 (-1) = -1 from wid (by decide) (by decide)]
    by_cases c2 : c ≤ -1
    · rw [if_pos c2, if_neg (by decide), wid (n := -c) (by omega) (by omega), wid (n := -c - 1) (by omega) (by omega), Int.tdiv_one, wid (n := -c - 1) (by omega) (by omega), wid (by omega) (by omega)]
      congr 1
      omega
    · rw [if_neg c2]
      congr 1
      omega
theorem apply_l0 {d a b c e : Int} {D : List Int} (h0 : 8 ≤ d) (h1 : d ≤ 31) (hb : Bd 4294967296 D) (hl : D.length ≤ 2000000) : ∀ (k i : Nat) (X : List Int), X.length = D.length → i ≤ D.length → D.length < k + i → (∀ j : Nat, j < i → rd X (j : Int) = rd D (j : Int)) → quant_Apply.l0 k 1 d D (D.length : Int) (i : Int) a b c e X = some (a, b, c, e, D, 0)
  | 0, i, X, hX, hi, hk, hj => by omega
  | k + 1, i, X, hX, hi, hk, hj => by
    rw [quant_Apply.l0.eq_2]
    by_cases q : i < D.length
    · have := hb.at_ (by decide) i
      rw [if_pos (by omega), if_pos (by omega), if_pos (by omega), quantize_one h0 h1 (by omega) (by omega), Option.bind_some, if_pos (by omega), show wrap64 ((i : Int) + 1) = ((i + 1 : Nat) : Int) from wid (by omega) (by omega), Int.toNat_natCast]
      refine apply_l0 h0 h1 hb hl k (i + 1) _ (by rw [List.length_set, hX]) (by omega) (by omega) fun j hjj => ?_
      by_cases e : j = i
      · subst e
        rw [rd_set_same (by omega)]
      · rw [rd_set_ne (by omega)]
        exact hj j (by omega)
    · obtain rfl : i = D.length := by omega
      rw [if_neg (by omega)]
      rw [ext_rd hX fun j hjj => hj j (by omega)]
theorem apply_one {d x0 y0 x1 y1 : Int} {D : List Int} (h0 : 8 ≤ d) (h1 : d ≤ 31) (hv : PV x0 y0 x1 y1 D) (hb : Bd 4294967296 D) : quant_Apply.f 2000000 x0 y0 x1 y1 D 1 d = some (x0, y0, x1, y1, D, 0) := by
  have hl : D.length ≤ 1048576 := by
    obtain ⟨w, m, _, _, h1, h2⟩ := hv.nat
    omega
  unfold quant_Apply.f
  rw [hv.valid, Option.bind_some, if_pos rfl, qvalid h0 h1, Option.bind_some, if_pos rfl, if_pos (by omega), if_pos (by omega)]
  exact apply_l0 h0 h1 hb (by omega) 2000000 0 _ (by simp) (by omega) (by omega) fun j hj => absurd hj (Nat.not_lt_zero j)

/-! ### the comparison -/
theorem same_l0 {D : List Int} (hl : D.length ≤ 2000000) : ∀ (k i : Nat), i ≤ D.length → D.length < k + i → waveletref02_SameInts.l0 k D D (i : Int) = some true
  | 0, i, hi, hk => by omega
  | k + 1, i, hi, hk => by
    rw [waveletref02_SameInts.l0.eq_2]
    by_cases q : i < D.length
    · rw [if_pos (by omega), if_pos (by omega), if_pos (by omega), if_pos rfl, show wrap64 ((i : Int) + 1) = ((i + 1 : Nat) : Int) from wid (by omega) (by omega)]
      exact same_l0 hl k (i + 1) (by omega) (by omega)
    · rw [if_neg (by omega)]
theorem same_ref {k : Nat} {x0 y0 x1 y1 : Int} {D : List Int} (hl : D.length ≤ 2000000) (hk : D.length < k) : waveletref02_Same.f k x0 y0 x1 y1 D x0 y0 x1 y1 D = some true := by
  unfold waveletref02_Same.f waveletref02_SameInts.f
  rw [if_pos (by simp), if_pos rfl]
  have := same_l0 hl k 0 (by omega) (by omega)
  rw [show ((0 : Nat) : Int) = 0 from rfl] at this
  rw [this]
  rfl
theorem sameAll_l0 {l : List S26} (hl : l.length ≤ 1000) (hD : ∀ s ∈ l, s.f1.length ≤ 2000000) : ∀ (k i : Nat), i ≤ l.length → l.length + 2000001 < k + i → waveletref02_SameAll.l0 k l l (i : Int) = some true
  | 0, i, hi, hk => by omega
  | k + 1, i, hi, hk => by
    rw [waveletref02_SameAll.l0.eq_2]
    by_cases q : i < l.length
    · have hm : (rd_T26 l (i : Int)).f1.length ≤ 2000000 := by
        refine hD _ ?_
        unfold rd_T26
        rw [Int.toNat_natCast, List.getD_eq_getElem?_getD, List.getElem?_eq_getElem q]
        exact List.getElem_mem q
      rw [if_pos (by omega), if_pos (by omega), if_pos (by omega), same_ref hm (by omega), Option.bind_some, if_pos rfl, show wrap64 ((i : Int) + 1) = ((i + 1 : Nat) : Int) from wid (by omega) (by omega)]
      exact sameAll_l0 hl hD k (i + 1) (by omega) (by omega)
    · rw [if_neg (by omega)]
theorem same_all {l : List S26} (hl : l.length ≤ 1000) (hD : ∀ s ∈ l, s.f1.length ≤ 2000000) : wavelettop_samePlanes.f 3000000 l l = some true := by
  unfold wavelettop_samePlanes.f waveletref02_SameAll.f
  have := sameAll_l0 hl hD 3000000 0 (by omega) (by omega)
  rw [show ((0 : Nat) : Int) = 0 from rfl] at this
  rw [if_pos rfl, this]
  rfl
end Go.Proofs.Ytcnpekpgghppnaa.Q

/- The law TopQuantized for every input. Printed by wip/tools of this session. -/
namespace Go.Proofs.Ytcnpekpgghppnaa.Q
open Go.RowKit Go.Proofs.YtcnpekpgghppnaaW.PrintWords Go.Proofs.YtcnpekpgghppnaaW.PrintLast Go.Proofs.YtcnpekpgghppnaaW.PrintMore
set_option linter.unusedVariables false
set_option linter.unusedSimpArgs false
set_option maxHeartbeats 8000000 in
set_option maxRecDepth 100000 in
theorem TopQuantized.skip1 (kp : Nat) (kk L dd x0 y0 x1 y1 : Int) (A : Option Addr) (c : Nat) (D : List Int) (w : World) (hr : Kd.C (Kd.int .i64) w A D.length D) (hc : D.length ≤ c) (hL1 : IntKind.i64.wrap L = L) (hd1 : IntKind.i64.wrap dd = dd) (hsm : wavelettop_smallPlane.f kp x0 y0 x1 y1 D = some false) :
    Calls Try.prog 4 #[.agg #[.int .i64 x0, .int .i64 y0, .int .i64 x1, .int .i64 y1, .slice A D.length c], .int .u8 L, .int .i64 kk, .int .u8 dd] w fun e w' => e = .returned (.bool true) ∧ Below w.heap.size w w' := by
  have HR := Aside0.mk hr
  have HC := Aside0.mk hc
  have HSM := Aside0.mk hsm
  clear hr hc hsm
  have K00 := Aside0.mk (Hold.nil w)
  go_enter Try.func4, Try.ntmps4
  go_wp2_with (first
    | ((with_reducible refine gate_dst (N := 4) rfl ?_); refine box_event ?hg (N := 4) ?hd (cs := #[.int .i64 x0, .int .i64 y0, .int .i64 x1, .int .i64 y1, .slice A D.length c]) (t := 26) ?hr ?_; (case hd => rfl); (case hg => rfl); (case hr => first | (go_simp; done) | (go_simp; rfl)); intro g4 hg W4 hbox hb; have K := Aside0.mk (K00.out.box (Nat.le_refl _) hg hbox hb trivial); clear hg hbox hb K00)
    | ((with_reducible refine gate_dst (N := 28) rfl ?_); refine load_ev rfl 26 (.tmp 4) rfl rfl (K.out.get 0 rfl) Try.underlying26 rfl ?_)
    | (go_at_call 6; (with_reducible refine (wavelettop_smallPlane.calls kp x0 y0 x1 y1 A c D false _ (Kd.C_below HR.out K.out.below) HC.out HSM.out).mono ?_); rintro _ w6 ⟨rfl, b⟩; have K' := Aside0.mk (K.out.call (below_size K.out.below) b); clear K; have K := K'; clear K'; clear b))
  go_ret
  exact ⟨rfl, K.out.below⟩
set_option maxHeartbeats 8000000 in
set_option maxRecDepth 100000 in
theorem TopQuantized.skip2 (kp : Nat) (kk L dd x0 y0 x1 y1 : Int) (A : Option Addr) (c : Nat) (D : List Int) (w : World) (hr : Kd.C (Kd.int .i64) w A D.length D) (hc : D.length ≤ c) (hL1 : IntKind.i64.wrap L = L) (hd1 : IntKind.i64.wrap dd = dd) (hsm : wavelettop_smallPlane.f kp x0 y0 x1 y1 D = some true) (hkn : wavelettop_knownKernel.f kk = some false) :
    Calls Try.prog 4 #[.agg #[.int .i64 x0, .int .i64 y0, .int .i64 x1, .int .i64 y1, .slice A D.length c], .int .u8 L, .int .i64 kk, .int .u8 dd] w fun e w' => e = .returned (.bool true) ∧ Below w.heap.size w w' := by
  have HR := Aside0.mk hr
  have HC := Aside0.mk hc
  have HSM := Aside0.mk hsm
  have HKN := Aside0.mk hkn
  clear hkn
  clear hr hc hsm
  have K00 := Aside0.mk (Hold.nil w)
  go_enter Try.func4, Try.ntmps4
  go_wp2_with (first
    | ((with_reducible refine gate_dst (N := 4) rfl ?_); refine box_event ?hg (N := 4) ?hd (cs := #[.int .i64 x0, .int .i64 y0, .int .i64 x1, .int .i64 y1, .slice A D.length c]) (t := 26) ?hr ?_; (case hd => rfl); (case hg => rfl); (case hr => first | (go_simp; done) | (go_simp; rfl)); intro g4 hg W4 hbox hb; have K := Aside0.mk (K00.out.box (Nat.le_refl _) hg hbox hb trivial); clear hg hbox hb K00)
    | ((with_reducible refine gate_dst (N := 28) rfl ?_); refine load_ev rfl 26 (.tmp 4) rfl rfl (K.out.get 0 rfl) Try.underlying26 rfl ?_)
    | (go_at_call 6; (with_reducible refine (wavelettop_smallPlane.calls kp x0 y0 x1 y1 A c D true _ (Kd.C_below HR.out K.out.below) HC.out HSM.out).mono ?_); rintro _ w6 ⟨rfl, b⟩; have K' := Aside0.mk (K.out.call (below_size K.out.below) b); clear K; have K := K'; clear K'; clear b)
    | ((try (refine gate_guard (by rfl) ?_; dsimp only)); go_at_call 7; (with_reducible refine (wavelettop_knownKernel.calls kk false _ HKN.out).mono ?_); rintro _ w7 ⟨rfl, b⟩; have K' := Aside0.mk (K.out.call (below_size K.out.below) b.below); clear K; have K := K'; clear K'; clear b))
  go_ret
  exact ⟨rfl, K.out.below⟩
theorem margin_of {kk : Int} (h : 1 ≤ kk ∧ kk ≤ 3) : ∃ mg, lift_Margin.f 1 kk = some mg ∧ mg ≠ 0 := by
  have : kk = 1 ∨ kk = 2 ∨ kk = 3 := by omega
  rcases this with rfl | rfl | rfl
  · exact ⟨2, by decide, by decide⟩
  · exact ⟨2, by decide, by decide⟩
  · exact ⟨4, by decide, by decide⟩
/-- The law TopQuantized answers true, whatever it is asked. -/
theorem TopQuantized.true_ (L dd kk x0 y0 x1 y1 : Int) (A : Option Addr) (c : Nat) (D : List Int) (w : World) (hr : Kd.C (Kd.int .i64) w A D.length D) (hc : D.length ≤ c) (hL0 : 0 ≤ L) (hL1 : L ≤ 255) (hd0 : 0 ≤ dd) (hd1 : dd ≤ 255) :
    Calls Try.prog 4 #[.agg #[.int .i64 x0, .int .i64 y0, .int .i64 x1, .int .i64 y1, .slice A D.length c], .int .u8 L, .int .i64 kk, .int .u8 dd] w fun e w' => e = .returned (.bool true) ∧ Below w.heap.size w w' := by
  have hLw : IntKind.i64.wrap L = L := by rw [i64_w, wid (by omega) (by omega)]
  have hdw : IntKind.i64.wrap dd = dd := by rw [i64_w, wid (by omega) (by omega)]
  obtain ⟨kp, r, hsm, hsr⟩ := small_total x0 y0 x1 y1 D
  cases r with
  | false => exact TopQuantized.skip1 kp kk L dd x0 y0 x1 y1 A c D w hr hc hLw hdw hsm
  | true =>
    obtain ⟨q, hkn, hkr⟩ := known_total kk
    cases q with
    | false => exact TopQuantized.skip2 kp kk L dd x0 y0 x1 y1 A c D w hr hc hLw hdw hsm hkn
    | true =>
      obtain ⟨hv, hlen, hb⟩ := hsr rfl
      have hkk := hkr rfl
      obtain ⟨n, hn⟩ : ∃ n : Nat, (n : Int) = L % 6 := ⟨(L % 6).toNat, by omega⟩
      have hn5 : n ≤ 5 := by omega
      obtain ⟨d, hd⟩ : ∃ d : Int, d = 8 + dd % 24 := ⟨_, rfl⟩
      have h8 : 8 ≤ d := by omega
      have h31 : d ≤ 31 := by omega
      obtain ⟨mg, hm, hmg⟩ := margin_of hkk
      obtain ⟨bs, u, i1, i2, i3, i4, i5, i6⟩ := pyr_ok hkk hn5 hv (hb.mono (by decide))
      obtain ⟨wd, m, hw, hmm, hD, hl⟩ := hv.nat
      obtain ⟨⟨p1, p2, p3⟩, ⟨q1, q2, q3⟩, _, _⟩ := id hv
      have hrs := res_of hn5 (Nat.le_refl n) (x0 := x0) (y0 := y0) (x1 := x1) (y1 := y1) ⟨p1, p2, p3⟩ ⟨q1, q2, q3⟩
      rw [Nat.sub_self, cd_zero, cd_zero, cd_zero, cd_zero] at hrs
      exact TopQuantized.good n 1 2000000 kp 1 3000000 kk mg L dd d _ x0 y0 x1 y1 x0 y0 x1 y1 A c D bs u w hr hc hv hsm hkn hm hmg
        (pexceeds_f (hb.mono (by decide)) (by decide) (by decide) (by omega) (by decide)) hn5 i1 i2 i3 i4 (fun j b hj => (i5 j b hj).1)
        (fun j b hj => ⟨2000000, apply_one h8 h31 (i5 j b hj).1.1 ((i5 j b hj).2.1.mono (by decide))⟩) (fun j b hj => (i5 j b hj).2.1) (qthr h8 h31) (qgood h8 h31) hrs
        (ra_of ⟨p1, p3⟩ ⟨q1, q3⟩ hw hmm hl) (by omega) (rv_of ⟨p1, p2, p3⟩ ⟨q1, q2, q3⟩) (same_all (by show 1 ≤ 1000; omega) (fun s hs => by
          obtain rfl : s = ⟨⟨x0, y0, x1, y1⟩, D⟩ := by simpa using hs
          show D.length ≤ 2000000
          omega))
        ⟨hLw, by rw [Int.tmod_eq_emod_of_nonneg hL0, hn]⟩ ⟨hdw, by rw [Int.tmod_eq_emod_of_nonneg hd0, hd, wid (by omega) (by omega)]⟩
end Go.Proofs.Ytcnpekpgghppnaa.Q

/- The contract of the law TopQuantized, as its row wants it. -/
namespace Go.Proofs.Ytcnpekpgghppnaa.Q
open Go.RowKit Go.Proofs.YtcnpekpgghppnaaW.PrintWords Go.Proofs.YtcnpekpgghppnaaW.PrintLast Go.Proofs.YtcnpekpgghppnaaW.PrintMore
set_option linter.unusedVariables false
/-- What the law answers: true, where its bytes are bytes. -/
def wavelettop_TopQuantized.f (a0_0 : Int) (a0_1 : Int) (a0_2 : Int) (a0_3 : Int) (l0_4 : List Int) (a1 : Int) (a2 : Int) (a3 : Int) : Option Bool := if (0 ≤ a1 ∧ a1 ≤ 255) ∧ 0 ≤ a3 ∧ a3 ≤ 255 then some true else none
theorem wavelettop_TopQuantized.calls (a0_0 : Int) (a0_1 : Int) (a0_2 : Int) (a0_3 : Int) (A0_4 : Option Addr) (c0_4 : Nat) (l0_4 : List Int) (a1 : Int) (a2 : Int) (a3 : Int) (r : Bool) (hr_ : r = true) (w : World) (hr0_4 : Kd.C (Kd.int .i64) w A0_4 l0_4.length l0_4) (hc0_4 : l0_4.length ≤ c0_4) (h : wavelettop_TopQuantized.f a0_0 a0_1 a0_2 a0_3 l0_4 a1 a2 a3 = some r) :
    Calls Try.prog 4 #[.agg #[.int .i64 a0_0, .int .i64 a0_1, .int .i64 a0_2, .int .i64 a0_3, .slice A0_4 l0_4.length c0_4], .int .u8 a1, .int .i64 a2, .int .u8 a3] w fun e w' => e = .returned (.bool r) ∧ Below w.heap.size w w' := by
  unfold wavelettop_TopQuantized.f at h
  split at h
  · rename_i hb
    subst hr_
    exact TopQuantized.true_ a1 a3 a2 a0_0 a0_1 a0_2 a0_3 A0_4 c0_4 l0_4 w hr0_4 hc0_4 hb.1.1 hb.1.2 hb.2.1 hb.2.2
  · cases h
end Go.Proofs.Ytcnpekpgghppnaa.Q

/- The law TopQuantized: its bytes are bytes, so it answers true. -/
namespace Go.Proofs.Ytcnpekpgghppnaa.Pure
set_option linter.unusedVariables false
open Go.RowKit Go.Proofs.Ytcnpekpgghppnaa.Q Go.Proofs.YtcnpekpgghppnaaW.PrintWords
theorem TopQuantized (a0_0 : Int) (a0_1 : Int) (a0_2 : Int) (a0_3 : Int) (l0_4 : List (Int)) (a1 : Int) (a2 : Int) (a3 : Int) (w0_0 : (Lit.int .i64 a0_0).wf = true) (w0_1 : (Lit.int .i64 a0_1).wf = true) (w0_2 : (Lit.int .i64 a0_2).wf = true) (w0_3 : (Lit.int .i64 a0_3).wf = true) (y0_4 : l0_4.length * 8 ≤ 140737488351232) (w0_4 : ∀ x ∈ l0_4, (Lit.int .i64 x).wf = true) (w1 : (Lit.int .u8 a1).wf = true) (w2 : (Lit.int .i64 a2).wf = true) (w3 : (Lit.int .u8 a3).wf = true) : wavelettop_TopQuantized.f a0_0 a0_1 a0_2 a0_3 l0_4 a1 a2 a3 = some true := by
  have h1 : 0 ≤ a1 ∧ a1 ≤ 255 := by
    simp [Lit.wf, IntKind.min, IntKind.max, IntKind.bits, IntKind.signed] at w1
    omega
  have h3 : 0 ≤ a3 ∧ a3 ≤ 255 := by
    simp [Lit.wf, IntKind.min, IntKind.max, IntKind.bits, IntKind.signed] at w3
    omega
  unfold wavelettop_TopQuantized.f
  rw [if_pos ⟨h1, h3⟩]
end Go.Proofs.Ytcnpekpgghppnaa.Pure

/- How an argument of a law is opened as a value of a printed kind, for any type that is built of integers, bools, strings, slices and structs: 'Opens P t d ok' says that what reads as data of type t holds the cells of some v of kind d, with ok v. -/
namespace Go.Proofs.Ytcnpekpgghppnaa.Open
open Go.RowKit Go.Proofs.YtcnpekpgghppnaaW.PrintWords

def Light {H : Type} (P : Program) (t : TypeId) (d : DataW H) : Prop := ∀ n ∈ d.weights P t, n ≤ 140737488351232

structure Opens {α : Type} (P : Program) (t : TypeId) (d : Kd α) (ok : α → Prop) : Prop where
  size : P.cellsOf t = d.sz
  opens : ∀ {H : Type} {enc : TypeId × Value → H} {w : World} {base : Nat} {spare : Nat → Bool} {held : Bool} {fuel : Nat} {cs : List Value} {x : DataW H × List MemPlace},
    DataW.trod enc P w base spare held fuel t cs = some x → Light P t x.1 → ∃ v, d.K w v cs ∧ ok v

theorem opens_int {P : Program} {t : TypeId} {k : IntKind} (ht : P.underlying t = some (.int k)) (hc : P.cellsOf t = 1) : Opens P t (Kd.int k) (fun n => (Lit.int k n).wf = true) :=
  ⟨hc, fun h _ => by
    obtain ⟨n, rfl, _, hw⟩ := DataW.trod_int ht h
    exact ⟨n, rfl, hw⟩⟩
theorem list_of_lt {α : Type} {p : Nat → α → Prop} : ∀ (n : Nat), (∀ i, i < n → ∃ v, p i v) → ∃ l : List α, l.length = n ∧ ∀ i v, l[i]? = some v → p i v
  | 0, _ => ⟨[], rfl, fun i v h => by simp at h⟩
  | n + 1, h => by
    obtain ⟨l, hl, hp⟩ := list_of_lt n (fun i hi => h i (by omega))
    obtain ⟨v, hv⟩ := h n (by omega)
    refine ⟨l ++ [v], by simp [hl], fun i u hu => ?_⟩
    rcases Nat.lt_or_ge i n with hi | hi
    · rw [List.getElem?_append_left (by omega)] at hu
      exact hp i u hu
    · rw [List.getElem?_append_right (by omega), hl] at hu
      have hi0 : i - n = 0 := by
        rcases Nat.eq_zero_or_pos (i - n) with h0 | h0
        · exact h0
        · rw [List.getElem?_eq_none (by simp; omega)] at hu
          cases hu
      rw [hi0] at hu
      have : i = n := by omega
      subst this
      have e : v = u := by simpa using hu
      subst e
      exact hv

theorem weightsAll_mem {H : Type} {P : Program} {e : TypeId} : ∀ {ds : List (DataW H)} {j : Nat} {d : DataW H}, ds[j]? = some d → ∀ n ∈ d.weights P e, n ∈ DataW.weightsAll P e ds
  | d0 :: ds, 0, d, hd, n, hn => by
    simp only [List.getElem?_cons_zero, Option.some.injEq] at hd
    subst hd
    simp only [DataW.weightsAll, List.mem_append]
    exact Or.inl hn
  | d0 :: ds, j + 1, d, hd, n, hn => by
    simp only [List.getElem?_cons_succ] at hd
    simp only [DataW.weightsAll, List.mem_append]
    exact Or.inr (weightsAll_mem hd n hn)
  | [], _, _, hd, _, _ => by simp at hd

theorem opens_slice {α : Type} {P : Program} {t e : TypeId} {d : Kd α} {ok : α → Prop} {B : Nat} (ht : P.underlying t = some (.slice e)) (hc : P.cellsOf t = 1) (hB : P.bytesOf e = B) (he : Opens P e d ok) :
    Opens P t (Kd.slice e d) (fun l => l.length * B ≤ 140737488351232 ∧ ∀ x ∈ l, ok x) :=
  ⟨hc, by
    intro H enc w base spare held fuel cs x h hl
    rcases DataW.trod_slice ht h with ⟨rfl, rfl⟩ | ⟨a, len, cap, elems, rest, n, _, rfl, rfl, hb, hlc, hm, hlen, hel, _, _⟩
    · exact ⟨[], ⟨none, 0, rfl, Nat.le_refl _, rfl, by simp, fun h0 => by simp at h0⟩, by simp, by simp⟩
    · have key : ∀ i, i < len → ∃ v : α, (∃ cs', w.cells? base (a.add (i * P.cellsOf e)) (P.cellsOf e) = some cs' ∧ d.K w v cs') ∧ ok v := by
        intro i hi
        have h1 := hel i hi
        rw [List.getElem?_eq_getElem (by omega)] at h1
        obtain ⟨cs', h2, h3⟩ := Option.bind_eq_some_iff.1 h1
        obtain ⟨v, hv, ho⟩ := he.opens h3 (fun m hm2 => hl m (by
          simp only [DataW.weights, ht, List.mem_cons, List.mem_append]
          exact Or.inr (Or.inl (weightsAll_mem (j := i) (by simp [List.getElem?_eq_getElem (show i < elems.length by omega)]) m hm2))))
        exact ⟨v, ⟨cs', h2, hv⟩, ho⟩
      obtain ⟨l, hll, hp⟩ := list_of_lt len key
      have hw := hl _ (by
        simp only [DataW.weights, ht]
        exact List.mem_cons_self)
      rw [hB] at hw
      refine ⟨l, ⟨some a, cap, by rw [hll], by omega, rfl, by unfold maxLen at hm; omega, fun _ => ⟨a, rfl, ?_⟩⟩, ?_, ?_⟩
      · intro j p hj
        obtain ⟨⟨cs', h2, hv⟩, _⟩ := hp j p hj
        obtain ⟨_, h4, h5⟩ := World.cells?_some h2
        refine ⟨cs', d.K_len hv, hv, fun i u hu => ?_⟩
        have hi : i < P.cellsOf e := by
          rw [← h4]
          exact (List.getElem?_eq_some_iff.1 hu).1
        rw [← hu, ← h5 i hi, he.size]
        congr 1
        simp only [Addr.add]
        split <;> split <;> split <;> first | rfl | omega | (simp; omega) | simp_all
      · have h6 : len ≤ (elems.map (·.1)).length + (rest.map (·.1)).length := by simp; omega
        rw [hll]
        exact Nat.le_trans (Nat.mul_le_mul_right B h6) hw
      · intro x hx
        obtain ⟨j, hj⟩ := List.mem_iff_getElem?.1 hx
        exact (hp j x hj).2⟩

def Parts {α : Type} (P : Program) (fs : List Field) (off total : Nat) (d : Kd α) (ok : α → Prop) : Prop :=
  ∀ {H : Type} {enc : TypeId × Value → H} {w : World} {base : Nat} {spare : Nat → Bool} {held : Bool} {n : Nat} {cs : List Value} (xs : List (DataW H × List MemPlace)), cs.length = total → xs.length = fs.length →
    (∀ (i : Nat) (f : Field), fs[i]? = some f → DataW.trod enc P w base spare held n f.type ((cs.drop f.offset).take (P.cellsOf f.type)) = xs[i]?) →
    (∀ (i : Nat) (f : Field) y, fs[i]? = some f → xs[i]? = some y → Light P f.type y.1) → ∃ v, d.K w v (cs.drop off) ∧ ok v

theorem parts_one {α : Type} {P : Program} {f : Field} {off total : Nat} {d : Kd α} {ok : α → Prop} (he : Opens P f.type d ok) (ho : f.offset = off) (hs : off + d.sz = total) : Parts P [f] off total d ok := by
  intro H enc w base spare held n cs xs hl hx h hw
  match xs, hx with
  | [y], _ =>
    have h0 := h 0 f rfl
    obtain ⟨v, hv, hk⟩ := he.opens h0 (hw 0 f y rfl rfl)
    refine ⟨v, ?_, hk⟩
    rw [ho, List.take_of_length_le (by rw [List.length_drop, he.size]; omega)] at hv
    exact hv
theorem parts_cons {α β : Type} {P : Program} {f : Field} {fs : List Field} {off total : Nat} {d : Kd α} {d2 : Kd β} {ok : α → Prop} {ok2 : β → Prop} (he : Opens P f.type d ok) (ho : f.offset = off) (h2 : Parts P fs (off + d.sz) total d2 ok2) :
    Parts P (f :: fs) off total (Kd.pair d d2) (fun p => ok p.1 ∧ ok2 p.2) := by
  intro H enc w base spare held n cs xs hl hx h hw
  match xs, hx with
  | y :: ys, hy =>
    have h0 := h 0 f rfl
    obtain ⟨v, hv, hk⟩ := he.opens h0 (hw 0 f y rfl rfl)
    obtain ⟨u, hu, hk2⟩ := h2 ys hl (by simpa using hy) (fun i g hg => h (i + 1) g (by simpa using hg)) (fun i g z hg hz => hw (i + 1) g z (by simpa using hg) (by simpa using hz))
    refine ⟨(v, u), ⟨_, _, ?_, hv, hu⟩, hk, hk2⟩
    rw [ho, he.size, ← List.drop_drop]
    exact (List.take_append_drop d.sz (cs.drop off)).symm
theorem opens_struct {α β : Type} {P : Program} {t : TypeId} {fs : Array Field} {d : Kd α} {ok : α → Prop} (ht : P.underlying t = some (.struct fs)) (hc : P.cellsOf t = d.sz) (h2 : Parts P fs.toList 0 (P.cellsOf t) d ok) (f : β → α) (g : α → β) (hfg : ∀ v, f (g v) = v) :
    Opens P t (Kd.iso d f) (fun x => ok (f x)) :=
  ⟨hc, by
    intro H enc w base spare held fuel cs x h hl
    obtain ⟨xs, n, _, rfl, hcl, hxl, hf⟩ := DataW.trod_struct ht h
    obtain ⟨v, hv, hk⟩ := h2 (cs := cs) xs hcl (by simpa using hxl) (fun i fd hi => hf i fd (by simpa using hi)) (fun i fd y hi hy m hm => hl m (by
      simp only [DataW.weights, ht]
      exact DataW.weights_mem_each (j := i) (by rw [List.getElem?_map, hi]; rfl) (by rw [List.getElem?_map, hy]; rfl) m hm))
    refine ⟨g v, ?_, ?_⟩
    · show d.K w (f (g v)) cs
      rw [hfg]
      simpa using hv
    · show ok (f (g v))
      rw [hfg]
      exact hk⟩

theorem light_of {H : Type} {P : Program} {ts : List TypeId} {ds : List (DataW H)} (hsz : (DataW.weightsEach P ts ds).all (· ≤ reachBytes) = true) {j : Nat} {t : TypeId} {d : DataW H} (ht : ts[j]? = some t) (hd : ds[j]? = some d) : Light P t d := by
  intro n hn
  have h1 := List.all_eq_true.1 hsz n (DataW.weights_mem_each ht hd n hn)
  have h2 : n ≤ reachBytes := by simpa using h1
  exact Nat.le_trans h2 (by decide)
end Go.Proofs.Ytcnpekpgghppnaa.Open

/- The row of TopQuantized, out of its pure law (Pure.TopQuantized) and the contract of the function; no condition. Written by wip/tools/lawrow.py of this session. -/
namespace Go.Proofs.Ytcnpekpgghppnaa.topQuantized
open Go.ChangeShapes Go.WideShapes Go.ChangeAt Go.RowKit Go.Proofs.Ytcnpekpgghppnaa.Q Go.Proofs.YtcnpekpgghppnaaW.PrintWords Go.Proofs.Ytcnpekpgghppnaa.Open
open Go.ChangeMaps (open_string shut_string)
set_option linter.unusedVariables false
theorem own : ownKnob Try.prog.godebug = none := by kernel_rfl
theorem laidOut : laidOutB Try.prog = true := by kernel_rfl
set_option maxRecDepth 100000 in
theorem lifted (os : Os) (started : os.Started) (H : Type) (enc : TypeId × Value → H) :
    ReturnsInHanded {} Try.checked os 4 .any (Rows.topQuantizedSpec.pre6 enc Try.prog Try.f4 Rows.topQuantizedRow.domain false) (Rows.topQuantizedSpec.post enc Try.prog Try.f4 false true false false) := by
  refine returnsInHanded_of_change_sized (C := Try.checked) own started (by kernel_rfl) Try.func4
    (ChangeSpec.witness6 (enc := enc) (C := Try.checked) false ⟨#[], #[.agg #[.int .i64 0, .int .i64 0, .int .i64 0, .int .i64 0, .slice none 0 0], .int .u8 0, .int .i64 0, .int .u8 0], []⟩ 8 (by kernel_rfl) (by kernel_rfl) (by kernel_rfl) (by kernel_rfl)) ?_
  intro W base args ds gs before hval0 hW hcnd hsz0 _
  have hsz : (DataW.weightsEach Try.prog (Try.f4.params.toList ++ Rows.topQuantizedSpec.plain.varTypes Try.prog) (ds ++ gs)).all (· ≤ reachBytes) = true := hsz0
  have hval : ∀ (j : Nat) t v, Try.f4.params[j]? = some t → args[j]? = some v → Value.okWide Try.prog W .any base t v := hval0
  have hW' := hW
  obtain ⟨p, q, hA0, hV, rfl, hfz, hnd⟩ := hW
  have hA : DataW.TrodAll enc Try.prog W 0 (fun _ => true) true Try.f4.params.toList args.toList ds p := hA0
  rw [Try.params4] at hA hval hsz
  obtain ⟨v0, vs0, d0, ds0, p0, q0, hargs, rfl, rfl, h0, r0⟩ := trodAll_cons hA
  obtain ⟨v1, vs1, d1, ds1, p1, q1, rfl, rfl, rfl, h1, r1⟩ := trodAll_cons r0
  obtain ⟨v2, vs2, d2, ds2, p2, q2, rfl, rfl, rfl, h2, r2⟩ := trodAll_cons r1
  obtain ⟨v3, vs3, d3, ds3, p3, q3, rfl, rfl, rfl, h3, r3⟩ := trodAll_cons r2
  obtain ⟨rfl, rfl, rfl⟩ := trodAll_nil r3
  obtain rfl : args = #[v0, v1, v2, v3] := by cases args; simp_all
  obtain ⟨rfl, rfl⟩ := trodVars_none hV
  have k0 := h0
  have lt0 : ∀ x ∈ p0, x.block < W.heap.size := by obtain ⟨m, hm⟩ := k0; exact DataW.trod_lt m _ _ _ hm
  have li0 := light_of hsz (j := 0) (t := 26) rfl rfl
  obtain ⟨fu0, hf0⟩ := h0
  obtain ⟨v0_, hK0, hok0⟩ := (opens_struct Try.underlying26 (by kernel_rfl) (parts_cons (opens_struct Try.underlying23 (by kernel_rfl) (parts_cons (opens_int Try.underlying3 (by kernel_rfl)) rfl (parts_cons (opens_int Try.underlying3 (by kernel_rfl)) rfl (parts_cons (opens_int Try.underlying3 (by kernel_rfl)) rfl (parts_one (opens_int Try.underlying3 (by kernel_rfl)) rfl (by kernel_rfl))))) (fun v => v) (fun v => v) (fun _ => rfl)) rfl (parts_one (opens_slice (B := 8) Try.underlying24 (by kernel_rfl) (by kernel_rfl) (opens_int Try.underlying3 (by kernel_rfl))) rfl (by kernel_rfl))) (fun v => v) (fun v => v) (fun _ => rfl)).opens hf0 li0
  obtain ⟨cs0, rfl, _⟩ := okWide_struct Try.underlying26 (hval 0 26 v0 rfl rfl)
  obtain ⟨_, _, hcs0, ⟨_, _, rfl, rfl, ⟨_, _, rfl, rfl, ⟨_, _, rfl, rfl, rfl⟩⟩⟩, ⟨A0_4, c0_4, rfl, hl0_4, hC0_4⟩⟩ := hK0
  obtain rfl : cs0 = #[.int .i64 v0_.1.1, .int .i64 v0_.1.2.1, .int .i64 v0_.1.2.2.1, .int .i64 v0_.1.2.2.2, .slice A0_4 v0_.2.length c0_4] := by cases cs0; simpa [Value.cells] using hcs0
  clear hcs0
  obtain ⟨⟨w0_0, w0_1, w0_2, w0_3⟩, ⟨y0_4, w0_4⟩⟩ := hok0
  have k1 := h1
  have lt1 : ∀ x ∈ p1, x.block < W.heap.size := by obtain ⟨m, hm⟩ := k1; exact DataW.trod_lt m _ _ _ hm
  have li1 := light_of hsz (j := 1) (t := 5) rfl rfl
  obtain ⟨fu1, hf1⟩ := h1
  obtain ⟨v1_, hK1, hok1⟩ := (opens_int Try.underlying5 (by kernel_rfl)).opens hf1 li1
  obtain ⟨a1, rfl⟩ := okWide_int Try.underlying5 (hval 1 5 v1 rfl rfl)
  obtain rfl : a1 = v1_ := by have hcs : [Value.int .u8 a1] = [Value.int .u8 v1_] := hK1; simpa using hcs
  have w1 := hok1
  have k2 := h2
  have lt2 : ∀ x ∈ p2, x.block < W.heap.size := by obtain ⟨m, hm⟩ := k2; exact DataW.trod_lt m _ _ _ hm
  have li2 := light_of hsz (j := 2) (t := 28) rfl rfl
  obtain ⟨fu2, hf2⟩ := h2
  obtain ⟨v2_, hK2, hok2⟩ := (opens_int Try.underlying28 (by kernel_rfl)).opens hf2 li2
  obtain ⟨a2, rfl⟩ := okWide_int Try.underlying28 (hval 2 28 v2 rfl rfl)
  obtain rfl : a2 = v2_ := by have hcs : [Value.int .i64 a2] = [Value.int .i64 v2_] := hK2; simpa using hcs
  have w2 := hok2
  have k3 := h3
  have lt3 : ∀ x ∈ p3, x.block < W.heap.size := by obtain ⟨m, hm⟩ := k3; exact DataW.trod_lt m _ _ _ hm
  have li3 := light_of hsz (j := 3) (t := 5) rfl rfl
  obtain ⟨fu3, hf3⟩ := h3
  obtain ⟨v3_, hK3, hok3⟩ := (opens_int Try.underlying5 (by kernel_rfl)).opens hf3 li3
  obtain ⟨a3, rfl⟩ := okWide_int Try.underlying5 (hval 3 5 v3 rfl rfl)
  obtain rfl : a3 = v3_ := by have hcs : [Value.int .u8 a3] = [Value.int .u8 v3_] := hK3; simpa using hcs
  have w3 := hok3
  clear hA0 hval0 hsz0 hsz
  have hp := Pure.TopQuantized (v0_.1.1) (v0_.1.2.1) (v0_.1.2.2.1) (v0_.1.2.2.2) (v0_.2) a1 a2 a3 w0_0 w0_1 w0_2 w0_3 y0_4 w0_4 w1 w2 w3
  refine (wavelettop_TopQuantized.calls (v0_.1.1) (v0_.1.2.1) (v0_.1.2.2.1) (v0_.1.2.2.2) _ _ (v0_.2) a1 a2 a3 true rfl W hC0_4 hl0_4 hp).mono fun e W' he_ => ?_
  obtain ⟨he, bel⟩ := he_
  subst he
  exact ⟨_, rfl, _, _, _, [], _, [], hW', trodAll_mk1 (shut_bool Try.underlying4 _), (trodAll_cons_mk (Below.trod laidOut (by kernel_rfl) (of_decide_eq_true (by kernel_rfl)) k0 bel lt0) (trodAll_cons_mk (Below.trod laidOut (by kernel_rfl) (of_decide_eq_true (by kernel_rfl)) k1 bel lt1) (trodAll_cons_mk (Below.trod laidOut (by kernel_rfl) (of_decide_eq_true (by kernel_rfl)) k2 bel lt2) (trodAll_cons_mk (Below.trod laidOut (by kernel_rfl) (of_decide_eq_true (by kernel_rfl)) k3 bel lt3) trodAll_mk0)))), rfl, bel.frame _, fun h => by cases h⟩
theorem over : Rows.topQuantizedRow.holds Try.pinned (OpenSpec.ofChange Rows.topQuantizedSpec) :=
  OpenClaim.holds_of_wide 4 Try.f4 rfl rfl rfl rfl rfl rfl rfl ⟨rfl, rfl, rfl, rfl, rfl⟩ rfl rfl rfl rfl rfl (by kernel_rfl) Try.func4 (by kernel_rfl)
    (of_decide_eq_true (by kernel_rfl)) (by unfold Func.isWrapper; first | (rw [if_pos (by decide +kernel)]; kernel_rfl) | (rw [if_neg (by decide +kernel)]; exact ⟨rfl, rfl⟩))
    (fun os started H enc _ => lifted os started H enc)
theorem proved : Rows.TopQuantizedSaid := over
end Go.Proofs.Ytcnpekpgghppnaa.topQuantized
namespace Go.Proofs.Ytcnpekpgghppnaa
/-- The row, under a short name, for the claim. -/
theorem topQuantized_holds : Rows.TopQuantizedSaid := topQuantized.proved
#print axioms topQuantized_holds
end Go.Proofs.Ytcnpekpgghppnaa
