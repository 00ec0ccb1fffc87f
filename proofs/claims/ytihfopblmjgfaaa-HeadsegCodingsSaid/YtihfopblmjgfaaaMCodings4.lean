/- Texts of this session (words and printed walks, merged by wip/tools/merge.py) for the statement of the claim. -/
import Derived.Test.YtihfopblmjgfaaaMCodings1
import Derived.Test.YtihfopblmjgfaaaMCodings3
/- The reference's ParseCoding. Printed by wip/tools/genRCod.py of this session. -/
namespace Go.Proofs.Ytihfopblmjgfaaa.Q
open Go.RowKit Go.Proofs.YtihfopblmjgfaaaW.PrintWords Go.Proofs.YtihfopblmjgfaaaW.PrintLast Go.Proofs.YtihfopblmjgfaaaW.PrintMore
set_option linter.unusedVariables false
set_option linter.unusedSimpArgs false
def rcodN (l : List Int) : Int := if (l.length : Int) ≥ 10 then wrap64 (10 + wrap64 (rd l 9)) else 10
def rcodLoop : Nat → Int → Int → List Int → List S89 → Option (List S89)
  | 0, _, _, _, _ => none
  | k + 1, n, i, l, xs => if i < n then (if 0 ≤ i ∧ i < (l.length : Int) then (if xs.length < 8796093022207 then rcodLoop k n (wrap64 (i + 1)) l (xs ++ [⟨Int.tmod (wrap64 (rd l i)) 16, wrap64 (Int.tdiv (wrap64 (rd l i)) 16)⟩]) else none) else none) else some xs
theorem rcodLoop.mono : ∀ k n i l xs, LeO (rcodLoop k n i l xs) (rcodLoop (k + 1) n i l xs)
  | 0, _, _, _, _ => LeO.none _
  | k + 1, n, i, l, xs => by
    rw [rcodLoop.eq_2, rcodLoop.eq_2]
    exact LeO.ite (LeO.ite (LeO.ite (rcodLoop.mono _ _ _ _ _) (LeO.refl _)) (LeO.refl _)) (LeO.refl _)
theorem Bks.grownK {α : Type} {d : Kd α} {e : Nat} {n : Nat} {w0 W W' : World} {l : List (Nat × Nat × Array Value)} (h : Bks n w0 W l) {base : Nat} {ok : Nat → Prop} {v : Value} {xs : List α} (hR : d.R e W base ok v xs) (hg : W.grownBy W' v.ownBlock) (hb : Below n w0 W') (ht : ∀ (i : Nat) (b : Nat × Nat × Array Value), l[i]? = some b → e ≠ b.2.1) : Bks n w0 W' l :=
  ⟨fun i b hi => blk_grown (h.blk i b hi) hg (Kd.R_ne hR (h.blk i b hi) (ht i b hi)), h.ne, h.ge, hb⟩

def waveletref29_ParseCoding.f (k : Nat) (a0_0 : Int) (l0_1 : List Int) : Option (Int × Int × Int × Int × Int × (List (S89)) × Int × Int × Bool × Bool × Bool × Bool × Bool × Bool × Bool × Bool × List Int × Int × Int × Int) :=
  (waveletref29_framed.f a0_0 l0_1 65442 (rcodN l0_1)).bind fun e => if e = 0 then (if 10 ≤ l0_1.length then (rcodLoop k (rcodN l0_1) 10 l0_1 []).bind fun xs => some (wrap64 (rd l0_1 0), wrap64 (rd l0_1 1), wrap64 (rd l0_1 2), wrap64 (rd l0_1 3), wrap64 (rd l0_1 4), xs, wrap64 (rd l0_1 5), wrap64 (rd l0_1 6), (Int.tmod (wrap64 (rd l0_1 7)) 2 == 1), (Int.tmod (wrap64 (Int.tdiv (wrap64 (rd l0_1 7)) 2)) 2 == 1), (Int.tmod (wrap64 (Int.tdiv (wrap64 (rd l0_1 7)) 4)) 2 == 1), (Int.tmod (wrap64 (Int.tdiv (wrap64 (rd l0_1 7)) 8)) 2 == 1), (Int.tmod (wrap64 (Int.tdiv (wrap64 (rd l0_1 7)) 16)) 2 == 1), (Int.tmod (wrap64 (Int.tdiv (wrap64 (rd l0_1 7)) 32)) 2 == 1), (Int.tmod (wrap64 (Int.tdiv (wrap64 (rd l0_1 7)) 64)) 2 == 1), (wrap64 (Int.tdiv (wrap64 (rd l0_1 7)) 128) == 1), [], 0, wrap64 (rd l0_1 8), 0) else none) else some (0, 0, 0, 0, 0, [], 0, 0, false, false, false, false, false, false, false, false, [], 0, 0, e)
theorem waveletref29_ParseCoding.mono : ∀ a0 a1 k, LeO (waveletref29_ParseCoding.f k a0 a1) (waveletref29_ParseCoding.f (k + 1) a0 a1) := by
  intro a0 a1 k
  exact LeO.bind (LeO.refl _) (fun _ => LeO.ite (LeO.ite (LeO.bind (rcodLoop.mono _ _ _ _ _) fun _ => LeO.refl _) (LeO.refl _)) (LeO.refl _))
set_option maxHeartbeats 8000000 in
set_option maxRecDepth 100000 in
theorem waveletref29_ParseCoding.calls (k : Nat) (a0_0 : Int) (A0_1 : Option Addr) (c0_1 : Nat) (l0_1 : List Int) (r1 : Int) (r2 : Int) (r3 : Int) (r4 : Int) (r5 : Int) (r6 : List (S89)) (r7 : Int) (r8 : Int) (r9 : Bool) (r10 : Bool) (r11 : Bool) (r12 : Bool) (r13 : Bool) (r14 : Bool) (r15 : Bool) (r16 : Bool) (r17 : List Int) (r18 : Int) (r19 : Int) (r20 : Int) (w : World) (hr0_1 : Kd.C (Kd.int .u8) w A0_1 l0_1.length l0_1) (hc0_1 : l0_1.length ≤ c0_1) (h : waveletref29_ParseCoding.f k a0_0 l0_1 = some (r1, r2, r3, r4, r5, r6, r7, r8, r9, r10, r11, r12, r13, r14, r15, r16, r17, r18, r19, r20)) :
    Calls Try.prog 36 #[.agg #[.int .i64 a0_0, .slice A0_1 l0_1.length c0_1]] w fun e w' => ∃ v5_ v16_ : Value, e = .returned (.tuple #[.agg #[.int .i64 r1, .int .i64 r2, .int .i64 r3, .int .i64 r4, .int .i64 r5, v5_, .int .i64 r7, .int .i64 r8, .bool r9, .bool r10, .bool r11, .bool r12, .bool r13, .bool r14, .bool r15, .bool r16, v16_, .int .i64 r18, .int .i64 r19], .int .i64 r20]) ∧ Kd.R k89 89 w' w.heap.size (fun _ => True) v5_ r6 ∧ Kd.R (Kd.int .i64) 3 w' w.heap.size (fun _ => True) v16_ r17 ∧ Below w.heap.size w w' := by
  unfold waveletref29_ParseCoding.f at h
  obtain ⟨er, hf, h⟩ := Option.bind_eq_some_iff.mp h
  have H := Aside0.mk h
  have HF := Aside0.mk hf
  have HR := Aside0.mk hr0_1
  have HC := Aside0.mk hc0_1
  clear h hf hr0_1 hc0_1
  have K00 := Aside0.mk (Bks.nil w)
  go_enter Try.func36, Try.ntmps36
  go_upto_if 13 with (first
    | ((with_reducible refine gate_dst (N := 1) rfl ?_); refine box_event ?hg (N := 1) ?hd (cs := #[.int .i64 a0_0, .slice A0_1 l0_1.length c0_1]) (t := 26) ?hr ?_; (case hd => rfl); (case hg => rfl); (case hr => first | (go_simp; done) | (go_simp; rfl)); intro g1 hg W1 hbox hb; have K0 := Aside0.mk (K00.out.box (Nat.le_refl _) hg hbox hb); clear hg hbox hb K00)
    | ((with_reducible refine gate_dst (N := 2) rfl ?_); refine box_event ?hg (N := 2) ?hd (cs := #[.int .i64 0, .int .i64 0, .int .i64 0, .int .i64 0, .int .i64 0, .slice none 0 0, .int .i64 0, .int .i64 0, .bool false, .bool false, .bool false, .bool false, .bool false, .bool false, .bool false, .bool false, .slice none 0 0, .int .i64 0, .int .i64 0]) (t := 55) ?hr ?_; (case hd => rfl); (case hg => rfl); (case hr => first | (go_simp; done) | (go_simp; rfl)); intro g2 hg W2 hbox hb; have K2 := Aside0.mk (K0.out.box (below_size K0.out.below) hg hbox hb); clear hg hbox hb K0; have hcz : W2.cell? ⟨g1, 1, none⟩ = some (.slice A0_1 l0_1.length c0_1) := K2.out.cell 1 rfl 1 rfl))
  (try simp only [Act.put, List.setIfInBounds_toArray, List.set_cons_zero, List.set_cons_succ])
  go_cut [4] (fun v4 wc => v4 = .int .i64 (rcodN l0_1) ∧ Aside0 (Bks w.heap.size w wc [(g2, 55, #[.int .i64 0, .int .i64 0, .int .i64 0, .int .i64 0, .int .i64 0, .slice none 0 0, .int .i64 0, .int .i64 0, .bool false, .bool false, .bool false, .bool false, .bool false, .bool false, .bool false, .bool false, .slice none 0 0, .int .i64 0, .int .i64 0]), (g1, 26, #[.int .i64 a0_0, .slice A0_1 l0_1.length c0_1])]))
  case first =>
    by_cases c10 : (l0_1.length : Int) ≥ 10
    · have hN : rcodN l0_1 = wrap64 (10 + wrap64 (rd l0_1 9)) := if_pos c10
      have c10b0 : decide (10 ≤ (l0_1.length : Int)) = true := decide_eq_true c10
      have c10b1 : decide (10 ≤ l0_1.length) = true := decide_eq_true (by omega)
      (first | rw [c10b0] | (simp only [i64_w, i32_w]; rw [c10b0]) | skip)
      have p473 : 0 ≤ (9 : Int) := by omega
      have q473 : 9 < (l0_1.length : Int) := by omega
      obtain ⟨ad473, e473, hx473_0⟩ := Kd.at_int (Kd.C_below HR.out K2.out.below) 9 p473 q473
      cases e473
      (try simp only [show (9 : Int).toNat = 9 from rfl, Nat.reduceMul, Nat.reduceEqDiff, Go.Addr.add, ↓reduceIte] at hx473_0)
      have qi473 : (9 < l0_1.length) = True := eq_true (by omega)
      replace p473 := eq_true p473
      replace q473 := eq_true q473
      go_wp2
      go_meet
      case rel => exact ⟨by rw [hN], K2⟩
    · have hN : rcodN l0_1 = 10 := if_neg c10
      have c10b0 : decide (10 ≤ (l0_1.length : Int)) = false := decide_eq_false c10
      have c10b1 : decide (10 ≤ l0_1.length) = false := decide_eq_false (by omega)
      (first | rw [c10b0] | (simp only [i64_w, i32_w]; rw [c10b0]) | skip)
      go_wp2
      go_meet
      case rel => exact ⟨by rw [hN], K2⟩
  case rest =>
    clear K2 hcz
    obtain ⟨rfl, K2⟩ := hcut
    go_wp2_with (first | ((with_reducible refine gate_dst (N := 21) rfl ?_); refine load_ev rfl 26 (.tmp 1) rfl rfl (K2.out.get 1 rfl) Try.underlying26 rfl ?_) | (go_at_call 50; fail))
    refine (waveletref29_framed.calls a0_0 A0_1 c0_1 l0_1 65442 (rcodN l0_1) er _ (Kd.C_below HR.out K2.out.below) HC.out HF.out).mono ?_
    rintro _ w3 ⟨rfl, b3⟩
    have K3 := Aside0.mk (K2.out.call (below_size K2.out.below) b3)
    clear K2 b3 HF
    have h := H.out
    clear H
    by_cases he : er = 0
    rotate_left
    · rw [if_neg he] at h
      simp only [Option.some.injEq, Prod.mk.injEq] at h
      obtain ⟨rfl, rfl, rfl, rfl, rfl, rfl, rfl, rfl, rfl, rfl, rfl, rfl, rfl, rfl, rfl, rfl, rfl, rfl, rfl, rfl⟩ := h
      have hy0 : (er == 0) = false := by simpa using he
      have hy' : (er != 0) = true := by simpa using he
      go_wp2_with (refine store_ev rfl rfl 55 (.tmp 2) (.tmp 26) rfl rfl rfl (K3.out.get 0 rfl) rfl rfl (by first | (kernel_rfl) | (simp [Value.oneCell'])) ?_; intro W8 hs; have K4 := Aside0.mk (K3.out.stored 0 rfl hs); clear hs)
      refine bodyPost_ret (results_ct rfl _ _ g2 55 _ (0, 0) _ rfl (K4.out.get 0 rfl) Try.underlying55 rfl (by kernel_rfl)) rfl ?_
      exact ⟨_, _, rfl, Kd.R_nil k89 89 _ _ _, Kd.R_nil (Kd.int .i64) 3 _ _ _, K4.out.below⟩
    subst he
    rw [if_pos rfl] at h
    simp only [Option.ite_none_right_eq_some] at h
    obtain ⟨lp, h⟩ := h
    obtain ⟨xs, hx, h⟩ := Option.bind_eq_some_iff.mp h
    simp only [Option.some.injEq, Prod.mk.injEq] at h
    obtain ⟨rfl, rfl, rfl, rfl, rfl, rfl, rfl, rfl, rfl, rfl, rfl, rfl, rfl, rfl, rfl, rfl, rfl, rfl, rfl, rfl⟩ := h
    have HX := Aside0.mk hx
    clear hx
    have LP := Aside0.mk lp
    obtain ⟨ad, e0, -⟩ := Kd.at_int HR.out 0 (by omega) (by omega)
    subst e0
    have hcz : w3.cell? ⟨g1, 1, none⟩ = some (.slice (some ad) l0_1.length c0_1) := K3.out.cell 1 rfl 1 rfl
    have hb : ∀ j : Nat, j < 10 → w3.cell? (ad.add j) = some (.int .u8 (rd l0_1 j)) := fun j hj => by
      obtain ⟨ad', e0, hx⟩ := Kd.at_int (Kd.C_below HR.out K3.out.below) (j : Int) (by omega) (by have := LP.out; omega)
      cases e0
      simpa using hx
    have b0 : w3.cell? (ad.add 0) = some (.int .u8 (rd l0_1 0)) := hb 0 (by decide)
    have n0 : (0 < l0_1.length) = True := eq_true (by omega)
    have m0 : ((0 : Int) < (l0_1.length : Int)) = True := eq_true (by omega)
    have b1 : w3.cell? (ad.add 1) = some (.int .u8 (rd l0_1 1)) := hb 1 (by decide)
    have n1 : (1 < l0_1.length) = True := eq_true (by omega)
    have m1 : ((1 : Int) < (l0_1.length : Int)) = True := eq_true (by omega)
    have b2 : w3.cell? (ad.add 2) = some (.int .u8 (rd l0_1 2)) := hb 2 (by decide)
    have n2 : (2 < l0_1.length) = True := eq_true (by omega)
    have m2 : ((2 : Int) < (l0_1.length : Int)) = True := eq_true (by omega)
    have b3 : w3.cell? (ad.add 3) = some (.int .u8 (rd l0_1 3)) := hb 3 (by decide)
    have n3 : (3 < l0_1.length) = True := eq_true (by omega)
    have m3 : ((3 : Int) < (l0_1.length : Int)) = True := eq_true (by omega)
    have b4 : w3.cell? (ad.add 4) = some (.int .u8 (rd l0_1 4)) := hb 4 (by decide)
    have n4 : (4 < l0_1.length) = True := eq_true (by omega)
    have m4 : ((4 : Int) < (l0_1.length : Int)) = True := eq_true (by omega)
    have b5 : w3.cell? (ad.add 5) = some (.int .u8 (rd l0_1 5)) := hb 5 (by decide)
    have n5 : (5 < l0_1.length) = True := eq_true (by omega)
    have m5 : ((5 : Int) < (l0_1.length : Int)) = True := eq_true (by omega)
    have b6 : w3.cell? (ad.add 6) = some (.int .u8 (rd l0_1 6)) := hb 6 (by decide)
    have n6 : (6 < l0_1.length) = True := eq_true (by omega)
    have m6 : ((6 : Int) < (l0_1.length : Int)) = True := eq_true (by omega)
    have b7 : w3.cell? (ad.add 7) = some (.int .u8 (rd l0_1 7)) := hb 7 (by decide)
    have n7 : (7 < l0_1.length) = True := eq_true (by omega)
    have m7 : ((7 : Int) < (l0_1.length : Int)) = True := eq_true (by omega)
    have b8 : w3.cell? (ad.add 8) = some (.int .u8 (rd l0_1 8)) := hb 8 (by decide)
    have n8 : (8 < l0_1.length) = True := eq_true (by omega)
    have m8 : ((8 : Int) < (l0_1.length : Int)) = True := eq_true (by omega)
    clear hb
    (try simp only [Nat.reduceMul, Nat.reduceEqDiff, Go.Addr.add, ↓reduceIte, Nat.add_zero] at b0)
    (try simp only [Nat.reduceMul, Nat.reduceEqDiff, Go.Addr.add, ↓reduceIte, Nat.add_zero] at b1)
    (try simp only [Nat.reduceMul, Nat.reduceEqDiff, Go.Addr.add, ↓reduceIte, Nat.add_zero] at b2)
    (try simp only [Nat.reduceMul, Nat.reduceEqDiff, Go.Addr.add, ↓reduceIte, Nat.add_zero] at b3)
    (try simp only [Nat.reduceMul, Nat.reduceEqDiff, Go.Addr.add, ↓reduceIte, Nat.add_zero] at b4)
    (try simp only [Nat.reduceMul, Nat.reduceEqDiff, Go.Addr.add, ↓reduceIte, Nat.add_zero] at b5)
    (try simp only [Nat.reduceMul, Nat.reduceEqDiff, Go.Addr.add, ↓reduceIte, Nat.add_zero] at b6)
    (try simp only [Nat.reduceMul, Nat.reduceEqDiff, Go.Addr.add, ↓reduceIte, Nat.add_zero] at b7)
    (try simp only [Nat.reduceMul, Nat.reduceEqDiff, Go.Addr.add, ↓reduceIte, Nat.add_zero] at b8)
    go_wp2
    clear b0 b1 b2 b3 b4 b5 b6 b7 b8
    have hS : ∀ W, Below w.heap.size w W → ∀ j : Nat, j < 10 → W.cell? (ad.add j) = some (.int .u8 (rd l0_1 j)) := fun W hB j hj => by
      obtain ⟨ad', e0, hx⟩ := Kd.at_int (Kd.C_below HR.out hB) (j : Int) (by omega) (by have := LP.out; omega)
      cases e0
      simpa using hx
    have HS := Aside0.mk hS
    clear hS hcz
    have K4 := Aside0.mk K3.out.drew
    clear K3
    refine start_ (n := 35) (S := fun w' => ∀ j : Nat, j < 10 → w'.cell? (ad.add j) = some (.int .u8 (rd l0_1 j))) (ds := []) #[false, false, false, false, false, false, false, false, false, false, false, false, false, false, false, false, false, false, false, false, false, false, false, false, false, false, false, false, false, false, false, false, false, false, false] (by kernel_rfl) rfl rfl (HS.out _ K4.out.below) (fun hHeld => ?_)
    generalize w3.drew = w4 at *
    have hHeld' := Aside0.mk hHeld
    clear hHeld
    refine pure_ (i := 0) (N := some 34) (v := ?_) (a' := ?_) #[true, false, false, false, false, false, false, false, false, false, false, false, false, false, false, false, false, false, false, false, false, false, false, false, false, false, false, false, false, false, false, false, false, false, false] rfl rfl (by kernel_rfl) (fun _ _ _ h => h) (Or.inl ⟨by rfl, ?_⟩) ?_ ?_
    rotate_left
    · intro w'
      go_simp
      with_reducible rfl
    rotate_left
    · simp only [Act.put, List.setIfInBounds_toArray, List.set_cons_zero, List.set_cons_succ, i64_w, i32_w]
      rfl
    refine pure_ (i := 1) (N := some 35) (v := ?_) (a' := ?_) #[true, true, false, false, false, false, false, false, false, false, false, false, false, false, false, false, false, false, false, false, false, false, false, false, false, false, false, false, false, false, false, false, false, false, false] rfl rfl (by kernel_rfl) (fun _ _ _ h => h) (Or.inl ⟨by rfl, ?_⟩) ?_ ?_
    rotate_left
    · intro w'
      go_simp
      with_reducible rfl
    rotate_left
    · simp only [Act.put, List.setIfInBounds_toArray, List.set_cons_zero, List.set_cons_succ, i64_w, i32_w]
      rfl
    refine take_ (i := 2) (N := some 36) (v := ?_) (a' := ?_) #[true, true, true, false, false, false, false, false, false, false, false, false, false, false, false, false, false, false, false, false, false, false, false, false, false, false, false, false, false, false, false, false, false, false, false] rfl rfl (by kernel_rfl) (fun _ _ _ h => h) (Or.inl ⟨by rfl, ?_⟩) hHeld'.out ?_ ?_
    rotate_left
    · intro w' s0
      have s1 := s0 0 (by decide)
      clear s0
      (try simp only [Nat.reduceMul, Nat.reduceEqDiff, Go.Addr.add, ↓reduceIte, Nat.add_zero] at s1)
      go_simp
      with_reducible rfl
    rotate_left
    · simp only [Act.put, List.setIfInBounds_toArray, List.set_cons_zero, List.set_cons_succ, i64_w, i32_w]
      rfl
    refine pure_ (i := 3) (N := some 37) (v := ?_) (a' := ?_) #[true, true, true, true, false, false, false, false, false, false, false, false, false, false, false, false, false, false, false, false, false, false, false, false, false, false, false, false, false, false, false, false, false, false, false] rfl rfl (by kernel_rfl) (fun _ _ _ h => h) (Or.inl ⟨by rfl, ?_⟩) ?_ ?_
    rotate_left
    · intro w'
      go_simp
      with_reducible rfl
    rotate_left
    · simp only [Act.put, List.setIfInBounds_toArray, List.set_cons_zero, List.set_cons_succ, i64_w, i32_w]
      rfl
    refine pure_ (i := 4) (N := some 38) (v := ?_) (a' := ?_) #[true, true, true, true, true, false, false, false, false, false, false, false, false, false, false, false, false, false, false, false, false, false, false, false, false, false, false, false, false, false, false, false, false, false, false] rfl rfl (by kernel_rfl) (fun _ _ _ h => h) (Or.inl ⟨by rfl, ?_⟩) ?_ ?_
    rotate_left
    · intro w'
      go_simp
      with_reducible rfl
    rotate_left
    · simp only [Act.put, List.setIfInBounds_toArray, List.set_cons_zero, List.set_cons_succ, i64_w, i32_w]
      rfl
    refine pure_ (i := 5) (N := some 39) (v := ?_) (a' := ?_) #[true, true, true, true, true, true, false, false, false, false, false, false, false, false, false, false, false, false, false, false, false, false, false, false, false, false, false, false, false, false, false, false, false, false, false] rfl rfl (by kernel_rfl) (fun _ _ _ h => h) (Or.inl ⟨by rfl, ?_⟩) ?_ ?_
    rotate_left
    · intro w'
      go_simp
      with_reducible rfl
    rotate_left
    · simp only [Act.put, List.setIfInBounds_toArray, List.set_cons_zero, List.set_cons_succ, i64_w, i32_w]
      rfl
    refine take_ (i := 6) (N := some 40) (v := ?_) (a' := ?_) #[true, true, true, true, true, true, true, false, false, false, false, false, false, false, false, false, false, false, false, false, false, false, false, false, false, false, false, false, false, false, false, false, false, false, false] rfl rfl (by kernel_rfl) (fun _ _ _ h => h) (Or.inl ⟨by rfl, ?_⟩) hHeld'.out ?_ ?_
    rotate_left
    · intro w' s0
      have s1 := s0 1 (by decide)
      clear s0
      (try simp only [Nat.reduceMul, Nat.reduceEqDiff, Go.Addr.add, ↓reduceIte, Nat.add_zero] at s1)
      go_simp
      with_reducible rfl
    rotate_left
    · simp only [Act.put, List.setIfInBounds_toArray, List.set_cons_zero, List.set_cons_succ, i64_w, i32_w]
      rfl
    refine pure_ (i := 7) (N := some 41) (v := ?_) (a' := ?_) #[true, true, true, true, true, true, true, true, false, false, false, false, false, false, false, false, false, false, false, false, false, false, false, false, false, false, false, false, false, false, false, false, false, false, false] rfl rfl (by kernel_rfl) (fun _ _ _ h => h) (Or.inl ⟨by rfl, ?_⟩) ?_ ?_
    rotate_left
    · intro w'
      go_simp
      with_reducible rfl
    rotate_left
    · simp only [Act.put, List.setIfInBounds_toArray, List.set_cons_zero, List.set_cons_succ, i64_w, i32_w]
      rfl
    refine pure_ (i := 8) (N := some 42) (v := ?_) (a' := ?_) #[true, true, true, true, true, true, true, true, true, false, false, false, false, false, false, false, false, false, false, false, false, false, false, false, false, false, false, false, false, false, false, false, false, false, false] rfl rfl (by kernel_rfl) (fun _ _ _ h => h) (Or.inl ⟨by rfl, ?_⟩) ?_ ?_
    rotate_left
    · intro w'
      go_simp
      with_reducible rfl
    rotate_left
    · simp only [Act.put, List.setIfInBounds_toArray, List.set_cons_zero, List.set_cons_succ, i64_w, i32_w]
      rfl
    refine pure_ (i := 9) (N := some 43) (v := ?_) (a' := ?_) #[true, true, true, true, true, true, true, true, true, true, false, false, false, false, false, false, false, false, false, false, false, false, false, false, false, false, false, false, false, false, false, false, false, false, false] rfl rfl (by kernel_rfl) (fun _ _ _ h => h) (Or.inl ⟨by rfl, ?_⟩) ?_ ?_
    rotate_left
    · intro w'
      go_simp
      with_reducible rfl
    rotate_left
    · simp only [Act.put, List.setIfInBounds_toArray, List.set_cons_zero, List.set_cons_succ, i64_w, i32_w]
      rfl
    refine take_ (i := 10) (N := some 44) (v := ?_) (a' := ?_) #[true, true, true, true, true, true, true, true, true, true, true, false, false, false, false, false, false, false, false, false, false, false, false, false, false, false, false, false, false, false, false, false, false, false, false] rfl rfl (by kernel_rfl) (fun _ _ _ h => h) (Or.inl ⟨by rfl, ?_⟩) hHeld'.out ?_ ?_
    rotate_left
    · intro w' s0
      have s1 := s0 2 (by decide)
      clear s0
      (try simp only [Nat.reduceMul, Nat.reduceEqDiff, Go.Addr.add, ↓reduceIte, Nat.add_zero] at s1)
      go_simp
      with_reducible rfl
    rotate_left
    · simp only [Act.put, List.setIfInBounds_toArray, List.set_cons_zero, List.set_cons_succ, i64_w, i32_w]
      rfl
    refine pure_ (i := 11) (N := some 45) (v := ?_) (a' := ?_) #[true, true, true, true, true, true, true, true, true, true, true, true, false, false, false, false, false, false, false, false, false, false, false, false, false, false, false, false, false, false, false, false, false, false, false] rfl rfl (by kernel_rfl) (fun _ _ _ h => h) (Or.inl ⟨by rfl, ?_⟩) ?_ ?_
    rotate_left
    · intro w'
      go_simp
      with_reducible rfl
    rotate_left
    · simp only [Act.put, List.setIfInBounds_toArray, List.set_cons_zero, List.set_cons_succ, i64_w, i32_w]
      rfl
    refine pure_ (i := 12) (N := some 46) (v := ?_) (a' := ?_) #[true, true, true, true, true, true, true, true, true, true, true, true, true, false, false, false, false, false, false, false, false, false, false, false, false, false, false, false, false, false, false, false, false, false, false] rfl rfl (by kernel_rfl) (fun _ _ _ h => h) (Or.inl ⟨by rfl, ?_⟩) ?_ ?_
    rotate_left
    · intro w'
      go_simp
      with_reducible rfl
    rotate_left
    · simp only [Act.put, List.setIfInBounds_toArray, List.set_cons_zero, List.set_cons_succ, i64_w, i32_w]
      rfl
    refine pure_ (i := 13) (N := some 47) (v := ?_) (a' := ?_) #[true, true, true, true, true, true, true, true, true, true, true, true, true, true, false, false, false, false, false, false, false, false, false, false, false, false, false, false, false, false, false, false, false, false, false] rfl rfl (by kernel_rfl) (fun _ _ _ h => h) (Or.inl ⟨by rfl, ?_⟩) ?_ ?_
    rotate_left
    · intro w'
      go_simp
      with_reducible rfl
    rotate_left
    · simp only [Act.put, List.setIfInBounds_toArray, List.set_cons_zero, List.set_cons_succ, i64_w, i32_w]
      rfl
    refine take_ (i := 14) (N := some 48) (v := ?_) (a' := ?_) #[true, true, true, true, true, true, true, true, true, true, true, true, true, true, true, false, false, false, false, false, false, false, false, false, false, false, false, false, false, false, false, false, false, false, false] rfl rfl (by kernel_rfl) (fun _ _ _ h => h) (Or.inl ⟨by rfl, ?_⟩) hHeld'.out ?_ ?_
    rotate_left
    · intro w' s0
      have s1 := s0 3 (by decide)
      clear s0
      (try simp only [Nat.reduceMul, Nat.reduceEqDiff, Go.Addr.add, ↓reduceIte, Nat.add_zero] at s1)
      go_simp
      with_reducible rfl
    rotate_left
    · simp only [Act.put, List.setIfInBounds_toArray, List.set_cons_zero, List.set_cons_succ, i64_w, i32_w]
      rfl
    refine pure_ (i := 15) (N := some 49) (v := ?_) (a' := ?_) #[true, true, true, true, true, true, true, true, true, true, true, true, true, true, true, true, false, false, false, false, false, false, false, false, false, false, false, false, false, false, false, false, false, false, false] rfl rfl (by kernel_rfl) (fun _ _ _ h => h) (Or.inl ⟨by rfl, ?_⟩) ?_ ?_
    rotate_left
    · intro w'
      go_simp
      with_reducible rfl
    rotate_left
    · simp only [Act.put, List.setIfInBounds_toArray, List.set_cons_zero, List.set_cons_succ, i64_w, i32_w]
      rfl
    refine pure_ (i := 16) (N := some 50) (v := ?_) (a' := ?_) #[true, true, true, true, true, true, true, true, true, true, true, true, true, true, true, true, true, false, false, false, false, false, false, false, false, false, false, false, false, false, false, false, false, false, false] rfl rfl (by kernel_rfl) (fun _ _ _ h => h) (Or.inl ⟨by rfl, ?_⟩) ?_ ?_
    rotate_left
    · intro w'
      go_simp
      with_reducible rfl
    rotate_left
    · simp only [Act.put, List.setIfInBounds_toArray, List.set_cons_zero, List.set_cons_succ, i64_w, i32_w]
      rfl
    refine pure_ (i := 17) (N := some 51) (v := ?_) (a' := ?_) #[true, true, true, true, true, true, true, true, true, true, true, true, true, true, true, true, true, true, false, false, false, false, false, false, false, false, false, false, false, false, false, false, false, false, false] rfl rfl (by kernel_rfl) (fun _ _ _ h => h) (Or.inl ⟨by rfl, ?_⟩) ?_ ?_
    rotate_left
    · intro w'
      go_simp
      with_reducible rfl
    rotate_left
    · simp only [Act.put, List.setIfInBounds_toArray, List.set_cons_zero, List.set_cons_succ, i64_w, i32_w]
      rfl
    refine take_ (i := 18) (N := some 52) (v := ?_) (a' := ?_) #[true, true, true, true, true, true, true, true, true, true, true, true, true, true, true, true, true, true, true, false, false, false, false, false, false, false, false, false, false, false, false, false, false, false, false] rfl rfl (by kernel_rfl) (fun _ _ _ h => h) (Or.inl ⟨by rfl, ?_⟩) hHeld'.out ?_ ?_
    rotate_left
    · intro w' s0
      have s1 := s0 4 (by decide)
      clear s0
      (try simp only [Nat.reduceMul, Nat.reduceEqDiff, Go.Addr.add, ↓reduceIte, Nat.add_zero] at s1)
      go_simp
      with_reducible rfl
    rotate_left
    · simp only [Act.put, List.setIfInBounds_toArray, List.set_cons_zero, List.set_cons_succ, i64_w, i32_w]
      rfl
    refine pure_ (i := 19) (N := some 53) (v := ?_) (a' := ?_) #[true, true, true, true, true, true, true, true, true, true, true, true, true, true, true, true, true, true, true, true, false, false, false, false, false, false, false, false, false, false, false, false, false, false, false] rfl rfl (by kernel_rfl) (fun _ _ _ h => h) (Or.inl ⟨by rfl, ?_⟩) ?_ ?_
    rotate_left
    · intro w'
      go_simp
      with_reducible rfl
    rotate_left
    · simp only [Act.put, List.setIfInBounds_toArray, List.set_cons_zero, List.set_cons_succ, i64_w, i32_w]
      rfl
    refine pure_ (i := 20) (N := some 54) (v := ?_) (a' := ?_) #[true, true, true, true, true, true, true, true, true, true, true, true, true, true, true, true, true, true, true, true, true, false, false, false, false, false, false, false, false, false, false, false, false, false, false] rfl rfl (by kernel_rfl) (fun _ _ _ h => h) (Or.inl ⟨by rfl, ?_⟩) ?_ ?_
    rotate_left
    · intro w'
      go_simp
      with_reducible rfl
    rotate_left
    · simp only [Act.put, List.setIfInBounds_toArray, List.set_cons_zero, List.set_cons_succ, i64_w, i32_w]
      rfl
    refine pure_ (i := 21) (N := some 55) (v := ?_) (a' := ?_) #[true, true, true, true, true, true, true, true, true, true, true, true, true, true, true, true, true, true, true, true, true, true, false, false, false, false, false, false, false, false, false, false, false, false, false] rfl rfl (by kernel_rfl) (fun _ _ _ h => h) (Or.inl ⟨by rfl, ?_⟩) ?_ ?_
    rotate_left
    · intro w'
      go_simp
      with_reducible rfl
    rotate_left
    · simp only [Act.put, List.setIfInBounds_toArray, List.set_cons_zero, List.set_cons_succ, i64_w, i32_w]
      rfl
    refine take_ (i := 22) (N := some 56) (v := ?_) (a' := ?_) #[true, true, true, true, true, true, true, true, true, true, true, true, true, true, true, true, true, true, true, true, true, true, true, false, false, false, false, false, false, false, false, false, false, false, false] rfl rfl (by kernel_rfl) (fun _ _ _ h => h) (Or.inl ⟨by rfl, ?_⟩) hHeld'.out ?_ ?_
    rotate_left
    · intro w' s0
      have s1 := s0 5 (by decide)
      clear s0
      (try simp only [Nat.reduceMul, Nat.reduceEqDiff, Go.Addr.add, ↓reduceIte, Nat.add_zero] at s1)
      go_simp
      with_reducible rfl
    rotate_left
    · simp only [Act.put, List.setIfInBounds_toArray, List.set_cons_zero, List.set_cons_succ, i64_w, i32_w]
      rfl
    refine pure_ (i := 23) (N := some 57) (v := ?_) (a' := ?_) #[true, true, true, true, true, true, true, true, true, true, true, true, true, true, true, true, true, true, true, true, true, true, true, true, false, false, false, false, false, false, false, false, false, false, false] rfl rfl (by kernel_rfl) (fun _ _ _ h => h) (Or.inl ⟨by rfl, ?_⟩) ?_ ?_
    rotate_left
    · intro w'
      go_simp
      with_reducible rfl
    rotate_left
    · simp only [Act.put, List.setIfInBounds_toArray, List.set_cons_zero, List.set_cons_succ, i64_w, i32_w]
      rfl
    refine pure_ (i := 24) (N := some 58) (v := ?_) (a' := ?_) #[true, true, true, true, true, true, true, true, true, true, true, true, true, true, true, true, true, true, true, true, true, true, true, true, true, false, false, false, false, false, false, false, false, false, false] rfl rfl (by kernel_rfl) (fun _ _ _ h => h) (Or.inl ⟨by rfl, ?_⟩) ?_ ?_
    rotate_left
    · intro w'
      go_simp
      with_reducible rfl
    rotate_left
    · simp only [Act.put, List.setIfInBounds_toArray, List.set_cons_zero, List.set_cons_succ, i64_w, i32_w]
      rfl
    refine pure_ (i := 25) (N := some 59) (v := ?_) (a' := ?_) #[true, true, true, true, true, true, true, true, true, true, true, true, true, true, true, true, true, true, true, true, true, true, true, true, true, true, false, false, false, false, false, false, false, false, false] rfl rfl (by kernel_rfl) (fun _ _ _ h => h) (Or.inl ⟨by rfl, ?_⟩) ?_ ?_
    rotate_left
    · intro w'
      go_simp
      with_reducible rfl
    rotate_left
    · simp only [Act.put, List.setIfInBounds_toArray, List.set_cons_zero, List.set_cons_succ, i64_w, i32_w]
      rfl
    refine take_ (i := 26) (N := some 60) (v := ?_) (a' := ?_) #[true, true, true, true, true, true, true, true, true, true, true, true, true, true, true, true, true, true, true, true, true, true, true, true, true, true, true, false, false, false, false, false, false, false, false] rfl rfl (by kernel_rfl) (fun _ _ _ h => h) (Or.inl ⟨by rfl, ?_⟩) hHeld'.out ?_ ?_
    rotate_left
    · intro w' s0
      have s1 := s0 6 (by decide)
      clear s0
      (try simp only [Nat.reduceMul, Nat.reduceEqDiff, Go.Addr.add, ↓reduceIte, Nat.add_zero] at s1)
      go_simp
      with_reducible rfl
    rotate_left
    · simp only [Act.put, List.setIfInBounds_toArray, List.set_cons_zero, List.set_cons_succ, i64_w, i32_w]
      rfl
    refine pure_ (i := 27) (N := some 61) (v := ?_) (a' := ?_) #[true, true, true, true, true, true, true, true, true, true, true, true, true, true, true, true, true, true, true, true, true, true, true, true, true, true, true, true, false, false, false, false, false, false, false] rfl rfl (by kernel_rfl) (fun _ _ _ h => h) (Or.inl ⟨by rfl, ?_⟩) ?_ ?_
    rotate_left
    · intro w'
      go_simp
      with_reducible rfl
    rotate_left
    · simp only [Act.put, List.setIfInBounds_toArray, List.set_cons_zero, List.set_cons_succ, i64_w, i32_w]
      rfl
    refine pure_ (i := 28) (N := some 62) (v := ?_) (a' := ?_) #[true, true, true, true, true, true, true, true, true, true, true, true, true, true, true, true, true, true, true, true, true, true, true, true, true, true, true, true, true, false, false, false, false, false, false] rfl rfl (by kernel_rfl) (fun _ _ _ h => h) (Or.inl ⟨by rfl, ?_⟩) ?_ ?_
    rotate_left
    · intro w'
      go_simp
      with_reducible rfl
    rotate_left
    · simp only [Act.put, List.setIfInBounds_toArray, List.set_cons_zero, List.set_cons_succ, i64_w, i32_w]
      rfl
    refine pure_ (i := 29) (N := some 63) (v := ?_) (a' := ?_) #[true, true, true, true, true, true, true, true, true, true, true, true, true, true, true, true, true, true, true, true, true, true, true, true, true, true, true, true, true, true, false, false, false, false, false] rfl rfl (by kernel_rfl) (fun _ _ _ h => h) (Or.inl ⟨by rfl, ?_⟩) ?_ ?_
    rotate_left
    · intro w'
      go_simp
      with_reducible rfl
    rotate_left
    · simp only [Act.put, List.setIfInBounds_toArray, List.set_cons_zero, List.set_cons_succ, i64_w, i32_w]
      rfl
    refine take_ (i := 30) (N := some 64) (v := ?_) (a' := ?_) #[true, true, true, true, true, true, true, true, true, true, true, true, true, true, true, true, true, true, true, true, true, true, true, true, true, true, true, true, true, true, true, false, false, false, false] rfl rfl (by kernel_rfl) (fun _ _ _ h => h) (Or.inl ⟨by rfl, ?_⟩) hHeld'.out ?_ ?_
    rotate_left
    · intro w' s0
      have s1 := s0 8 (by decide)
      clear s0
      (try simp only [Nat.reduceMul, Nat.reduceEqDiff, Go.Addr.add, ↓reduceIte, Nat.add_zero] at s1)
      go_simp
      with_reducible rfl
    rotate_left
    · simp only [Act.put, List.setIfInBounds_toArray, List.set_cons_zero, List.set_cons_succ, i64_w, i32_w]
      rfl
    refine pure_ (i := 31) (N := some 65) (v := ?_) (a' := ?_) #[true, true, true, true, true, true, true, true, true, true, true, true, true, true, true, true, true, true, true, true, true, true, true, true, true, true, true, true, true, true, true, true, false, false, false] rfl rfl (by kernel_rfl) (fun _ _ _ h => h) (Or.inl ⟨by rfl, ?_⟩) ?_ ?_
    rotate_left
    · intro w'
      go_simp
      with_reducible rfl
    rotate_left
    · simp only [Act.put, List.setIfInBounds_toArray, List.set_cons_zero, List.set_cons_succ, i64_w, i32_w]
      rfl
    refine pure_ (i := 32) (N := some 66) (v := ?_) (a' := ?_) #[true, true, true, true, true, true, true, true, true, true, true, true, true, true, true, true, true, true, true, true, true, true, true, true, true, true, true, true, true, true, true, true, true, false, false] rfl rfl (by kernel_rfl) (fun _ _ _ h => h) (Or.inl ⟨by rfl, ?_⟩) ?_ ?_
    rotate_left
    · intro w'
      go_simp
      with_reducible rfl
    rotate_left
    · simp only [Act.put, List.setIfInBounds_toArray, List.set_cons_zero, List.set_cons_succ, i64_w, i32_w]
      rfl
    refine one_ (i := 33) (N := some 8) #[true, true, true, true, true, true, true, true, true, true, true, true, true, true, true, true, true, true, true, true, true, true, true, true, true, true, true, true, true, true, true, true, true, true, false] rfl rfl (by kernel_rfl) (by decide) (fun K hK => ?_)
    refine box_step ?hg (N := 8) ?hd (cs := #[.int .i64 0, .int .i64 0, .int .i64 0, .int .i64 0, .int .i64 0, .slice none 0 0, .int .i64 0, .int .i64 0, .bool false, .bool false, .bool false, .bool false, .bool false, .bool false, .bool false, .bool false, .slice none 0 0, .int .i64 0, .int .i64 0]) (t := 55) ?hr ?_; (case hd => rfl); (case hg => rfl); (case hr => first | (go_simp; done) | (go_simp; rfl))
    intro g8 hg w5 hbox hb
    have K5 := Aside0.mk (K4.out.box (below_size K4.out.below) hg hbox hb)
    clear K4 hg hbox hb hHeld'
    refine hK.out _ _ (HS.out _ K5.out.below) (fun hHeld => ?_)
    clear hK K hHeld
    refine norm_ (a' := ?_) ?_ ?_
    rotate_left
    · show Act.put _ (some 8) _ = _
      simp only [Act.put, List.setIfInBounds_toArray, List.set_cons_zero, List.set_cons_succ, i64_w, i32_w]
      rfl
    refine one_ (i := 34) (N := none) #[true, true, true, true, true, true, true, true, true, true, true, true, true, true, true, true, true, true, true, true, true, true, true, true, true, true, true, true, true, true, true, true, true, true, true] rfl rfl (by kernel_rfl) (by decide) (fun K hK => ?_)
    refine store_step (by rfl) rfl 55 (.tmp 8) (.tmp 66) rfl rfl rfl (K5.out.get 0 rfl) rfl rfl (by first | (kernel_rfl) | (simp [Value.oneCell'])) (fun w6 hs => ?_)
    have K6 := Aside0.mk (K5.out.stored 0 rfl hs)
    clear K5 hs
    refine hK.out _ _ (HS.out _ K6.out.below) (fun hHeld => ?_)
    clear hK K hHeld
    refine done_ (by kernel_rfl) ?_
    have f8 : w6.cell? ⟨g8, 8, none⟩ = some (.bool false) := K6.out.cell 0 rfl 8 rfl
    have z8 := blk_frozen (K6.out.get 0 rfl) 8
    have f9 : w6.cell? ⟨g8, 9, none⟩ = some (.bool false) := K6.out.cell 0 rfl 9 rfl
    have z9 := blk_frozen (K6.out.get 0 rfl) 9
    have f10 : w6.cell? ⟨g8, 10, none⟩ = some (.bool false) := K6.out.cell 0 rfl 10 rfl
    have z10 := blk_frozen (K6.out.get 0 rfl) 10
    have f11 : w6.cell? ⟨g8, 11, none⟩ = some (.bool false) := K6.out.cell 0 rfl 11 rfl
    have z11 := blk_frozen (K6.out.get 0 rfl) 11
    have f12 : w6.cell? ⟨g8, 12, none⟩ = some (.bool false) := K6.out.cell 0 rfl 12 rfl
    have z12 := blk_frozen (K6.out.get 0 rfl) 12
    have f13 : w6.cell? ⟨g8, 13, none⟩ = some (.bool false) := K6.out.cell 0 rfl 13 rfl
    have z13 := blk_frozen (K6.out.get 0 rfl) 13
    have f14 : w6.cell? ⟨g8, 14, none⟩ = some (.bool false) := K6.out.cell 0 rfl 14 rfl
    have z14 := blk_frozen (K6.out.get 0 rfl) 14
    have f15 : w6.cell? ⟨g8, 15, none⟩ = some (.bool false) := K6.out.cell 0 rfl 15 rfl
    have z15 := blk_frozen (K6.out.get 0 rfl) 15
    go_wp2
    have K7 := Aside0.mk ((((((((K6.out.set 0 rfl 8 (.bool (Int.tmod (wrap64 (rd l0_1 7)) 2 == 1)) (cs' := #[.int .i64 (wrap64 (rd l0_1 0)), .int .i64 (wrap64 (rd l0_1 1)), .int .i64 (wrap64 (rd l0_1 2)), .int .i64 (wrap64 (rd l0_1 3)), .int .i64 (wrap64 (rd l0_1 4)), .slice none 0 0, .int .i64 (wrap64 (rd l0_1 5)), .int .i64 (wrap64 (rd l0_1 6)), .bool (Int.tmod (wrap64 (rd l0_1 7)) 2 == 1), .bool false, .bool false, .bool false, .bool false, .bool false, .bool false, .bool false, .slice none 0 0, .int .i64 0, .int .i64 (wrap64 (rd l0_1 8))]) rfl).set 0 rfl 9 (.bool (Int.tmod (wrap64 (Int.tdiv (wrap64 (rd l0_1 7)) 2)) 2 == 1)) (cs' := #[.int .i64 (wrap64 (rd l0_1 0)), .int .i64 (wrap64 (rd l0_1 1)), .int .i64 (wrap64 (rd l0_1 2)), .int .i64 (wrap64 (rd l0_1 3)), .int .i64 (wrap64 (rd l0_1 4)), .slice none 0 0, .int .i64 (wrap64 (rd l0_1 5)), .int .i64 (wrap64 (rd l0_1 6)), .bool (Int.tmod (wrap64 (rd l0_1 7)) 2 == 1), .bool (Int.tmod (wrap64 (Int.tdiv (wrap64 (rd l0_1 7)) 2)) 2 == 1), .bool false, .bool false, .bool false, .bool false, .bool false, .bool false, .slice none 0 0, .int .i64 0, .int .i64 (wrap64 (rd l0_1 8))]) rfl).set 0 rfl 10 (.bool (Int.tmod (wrap64 (Int.tdiv (wrap64 (rd l0_1 7)) 4)) 2 == 1)) (cs' := #[.int .i64 (wrap64 (rd l0_1 0)), .int .i64 (wrap64 (rd l0_1 1)), .int .i64 (wrap64 (rd l0_1 2)), .int .i64 (wrap64 (rd l0_1 3)), .int .i64 (wrap64 (rd l0_1 4)), .slice none 0 0, .int .i64 (wrap64 (rd l0_1 5)), .int .i64 (wrap64 (rd l0_1 6)), .bool (Int.tmod (wrap64 (rd l0_1 7)) 2 == 1), .bool (Int.tmod (wrap64 (Int.tdiv (wrap64 (rd l0_1 7)) 2)) 2 == 1), .bool (Int.tmod (wrap64 (Int.tdiv (wrap64 (rd l0_1 7)) 4)) 2 == 1), .bool false, .bool false, .bool false, .bool false, .bool false, .slice none 0 0, .int .i64 0, .int .i64 (wrap64 (rd l0_1 8))]) rfl).set 0 rfl 11 (.bool (Int.tmod (wrap64 (Int.tdiv (wrap64 (rd l0_1 7)) 8)) 2 == 1)) (cs' := #[.int .i64 (wrap64 (rd l0_1 0)), .int .i64 (wrap64 (rd l0_1 1)), .int .i64 (wrap64 (rd l0_1 2)), .int .i64 (wrap64 (rd l0_1 3)), .int .i64 (wrap64 (rd l0_1 4)), .slice none 0 0, .int .i64 (wrap64 (rd l0_1 5)), .int .i64 (wrap64 (rd l0_1 6)), .bool (Int.tmod (wrap64 (rd l0_1 7)) 2 == 1), .bool (Int.tmod (wrap64 (Int.tdiv (wrap64 (rd l0_1 7)) 2)) 2 == 1), .bool (Int.tmod (wrap64 (Int.tdiv (wrap64 (rd l0_1 7)) 4)) 2 == 1), .bool (Int.tmod (wrap64 (Int.tdiv (wrap64 (rd l0_1 7)) 8)) 2 == 1), .bool false, .bool false, .bool false, .bool false, .slice none 0 0, .int .i64 0, .int .i64 (wrap64 (rd l0_1 8))]) rfl).set 0 rfl 12 (.bool (Int.tmod (wrap64 (Int.tdiv (wrap64 (rd l0_1 7)) 16)) 2 == 1)) (cs' := #[.int .i64 (wrap64 (rd l0_1 0)), .int .i64 (wrap64 (rd l0_1 1)), .int .i64 (wrap64 (rd l0_1 2)), .int .i64 (wrap64 (rd l0_1 3)), .int .i64 (wrap64 (rd l0_1 4)), .slice none 0 0, .int .i64 (wrap64 (rd l0_1 5)), .int .i64 (wrap64 (rd l0_1 6)), .bool (Int.tmod (wrap64 (rd l0_1 7)) 2 == 1), .bool (Int.tmod (wrap64 (Int.tdiv (wrap64 (rd l0_1 7)) 2)) 2 == 1), .bool (Int.tmod (wrap64 (Int.tdiv (wrap64 (rd l0_1 7)) 4)) 2 == 1), .bool (Int.tmod (wrap64 (Int.tdiv (wrap64 (rd l0_1 7)) 8)) 2 == 1), .bool (Int.tmod (wrap64 (Int.tdiv (wrap64 (rd l0_1 7)) 16)) 2 == 1), .bool false, .bool false, .bool false, .slice none 0 0, .int .i64 0, .int .i64 (wrap64 (rd l0_1 8))]) rfl).set 0 rfl 13 (.bool (Int.tmod (wrap64 (Int.tdiv (wrap64 (rd l0_1 7)) 32)) 2 == 1)) (cs' := #[.int .i64 (wrap64 (rd l0_1 0)), .int .i64 (wrap64 (rd l0_1 1)), .int .i64 (wrap64 (rd l0_1 2)), .int .i64 (wrap64 (rd l0_1 3)), .int .i64 (wrap64 (rd l0_1 4)), .slice none 0 0, .int .i64 (wrap64 (rd l0_1 5)), .int .i64 (wrap64 (rd l0_1 6)), .bool (Int.tmod (wrap64 (rd l0_1 7)) 2 == 1), .bool (Int.tmod (wrap64 (Int.tdiv (wrap64 (rd l0_1 7)) 2)) 2 == 1), .bool (Int.tmod (wrap64 (Int.tdiv (wrap64 (rd l0_1 7)) 4)) 2 == 1), .bool (Int.tmod (wrap64 (Int.tdiv (wrap64 (rd l0_1 7)) 8)) 2 == 1), .bool (Int.tmod (wrap64 (Int.tdiv (wrap64 (rd l0_1 7)) 16)) 2 == 1), .bool (Int.tmod (wrap64 (Int.tdiv (wrap64 (rd l0_1 7)) 32)) 2 == 1), .bool false, .bool false, .slice none 0 0, .int .i64 0, .int .i64 (wrap64 (rd l0_1 8))]) rfl).set 0 rfl 14 (.bool (Int.tmod (wrap64 (Int.tdiv (wrap64 (rd l0_1 7)) 64)) 2 == 1)) (cs' := #[.int .i64 (wrap64 (rd l0_1 0)), .int .i64 (wrap64 (rd l0_1 1)), .int .i64 (wrap64 (rd l0_1 2)), .int .i64 (wrap64 (rd l0_1 3)), .int .i64 (wrap64 (rd l0_1 4)), .slice none 0 0, .int .i64 (wrap64 (rd l0_1 5)), .int .i64 (wrap64 (rd l0_1 6)), .bool (Int.tmod (wrap64 (rd l0_1 7)) 2 == 1), .bool (Int.tmod (wrap64 (Int.tdiv (wrap64 (rd l0_1 7)) 2)) 2 == 1), .bool (Int.tmod (wrap64 (Int.tdiv (wrap64 (rd l0_1 7)) 4)) 2 == 1), .bool (Int.tmod (wrap64 (Int.tdiv (wrap64 (rd l0_1 7)) 8)) 2 == 1), .bool (Int.tmod (wrap64 (Int.tdiv (wrap64 (rd l0_1 7)) 16)) 2 == 1), .bool (Int.tmod (wrap64 (Int.tdiv (wrap64 (rd l0_1 7)) 32)) 2 == 1), .bool (Int.tmod (wrap64 (Int.tdiv (wrap64 (rd l0_1 7)) 64)) 2 == 1), .bool false, .slice none 0 0, .int .i64 0, .int .i64 (wrap64 (rd l0_1 8))]) rfl).set 0 rfl 15 (.bool (wrap64 (Int.tdiv (wrap64 (rd l0_1 7)) 128) == 1)) (cs' := #[.int .i64 (wrap64 (rd l0_1 0)), .int .i64 (wrap64 (rd l0_1 1)), .int .i64 (wrap64 (rd l0_1 2)), .int .i64 (wrap64 (rd l0_1 3)), .int .i64 (wrap64 (rd l0_1 4)), .slice none 0 0, .int .i64 (wrap64 (rd l0_1 5)), .int .i64 (wrap64 (rd l0_1 6)), .bool (Int.tmod (wrap64 (rd l0_1 7)) 2 == 1), .bool (Int.tmod (wrap64 (Int.tdiv (wrap64 (rd l0_1 7)) 2)) 2 == 1), .bool (Int.tmod (wrap64 (Int.tdiv (wrap64 (rd l0_1 7)) 4)) 2 == 1), .bool (Int.tmod (wrap64 (Int.tdiv (wrap64 (rd l0_1 7)) 8)) 2 == 1), .bool (Int.tmod (wrap64 (Int.tdiv (wrap64 (rd l0_1 7)) 16)) 2 == 1), .bool (Int.tmod (wrap64 (Int.tdiv (wrap64 (rd l0_1 7)) 32)) 2 == 1), .bool (Int.tmod (wrap64 (Int.tdiv (wrap64 (rd l0_1 7)) 64)) 2 == 1), .bool (wrap64 (Int.tdiv (wrap64 (rd l0_1 7)) 128) == 1), .slice none 0 0, .int .i64 0, .int .i64 (wrap64 (rd l0_1 8))]) rfl)
    clear K6 f8 z8 f9 z9 f10 z10 f11 z11 f12 z12 f13 z13 f14 z14 f15 z15 n0 m0 n1 m1 n2 m2 n3 m3 n4 m4 n5 m5 n6 m6 n7 m7 n8 m8
    generalize ((((((((w6.setCell ⟨g8, 8, none⟩ (.bool (Int.tmod (wrap64 (rd l0_1 7)) 2 == 1))).setCell ⟨g8, 9, none⟩ (.bool (Int.tmod (wrap64 (Int.tdiv (wrap64 (rd l0_1 7)) 2)) 2 == 1))).setCell ⟨g8, 10, none⟩ (.bool (Int.tmod (wrap64 (Int.tdiv (wrap64 (rd l0_1 7)) 4)) 2 == 1))).setCell ⟨g8, 11, none⟩ (.bool (Int.tmod (wrap64 (Int.tdiv (wrap64 (rd l0_1 7)) 8)) 2 == 1))).setCell ⟨g8, 12, none⟩ (.bool (Int.tmod (wrap64 (Int.tdiv (wrap64 (rd l0_1 7)) 16)) 2 == 1))).setCell ⟨g8, 13, none⟩ (.bool (Int.tmod (wrap64 (Int.tdiv (wrap64 (rd l0_1 7)) 32)) 2 == 1))).setCell ⟨g8, 14, none⟩ (.bool (Int.tmod (wrap64 (Int.tdiv (wrap64 (rd l0_1 7)) 64)) 2 == 1))).setCell ⟨g8, 15, none⟩ (.bool (wrap64 (Int.tdiv (wrap64 (rd l0_1 7)) 128) == 1))) = W7 at *
    have HR0 := Aside0.mk (Kd.R_nil k89 89 W7 w.heap.size (fun _ => True))
    go_loopg [9] k (fun kq v9 w' => ∃ (i : Int) (ys : List S89) (v : Value), v9 = .int .i64 i ∧ Aside0 (rcodLoop kq (rcodN l0_1) i l0_1 ys = some xs) ∧ Aside0 (Bks w.heap.size w w' [(g8, 55, #[.int .i64 (wrap64 (rd l0_1 0)), .int .i64 (wrap64 (rd l0_1 1)), .int .i64 (wrap64 (rd l0_1 2)), .int .i64 (wrap64 (rd l0_1 3)), .int .i64 (wrap64 (rd l0_1 4)), v, .int .i64 (wrap64 (rd l0_1 5)), .int .i64 (wrap64 (rd l0_1 6)), .bool (Int.tmod (wrap64 (rd l0_1 7)) 2 == 1), .bool (Int.tmod (wrap64 (Int.tdiv (wrap64 (rd l0_1 7)) 2)) 2 == 1), .bool (Int.tmod (wrap64 (Int.tdiv (wrap64 (rd l0_1 7)) 4)) 2 == 1), .bool (Int.tmod (wrap64 (Int.tdiv (wrap64 (rd l0_1 7)) 8)) 2 == 1), .bool (Int.tmod (wrap64 (Int.tdiv (wrap64 (rd l0_1 7)) 16)) 2 == 1), .bool (Int.tmod (wrap64 (Int.tdiv (wrap64 (rd l0_1 7)) 32)) 2 == 1), .bool (Int.tmod (wrap64 (Int.tdiv (wrap64 (rd l0_1 7)) 64)) 2 == 1), .bool (wrap64 (Int.tdiv (wrap64 (rd l0_1 7)) 128) == 1), .slice none 0 0, .int .i64 0, .int .i64 (wrap64 (rd l0_1 8))]), (g2, 55, #[.int .i64 0, .int .i64 0, .int .i64 0, .int .i64 0, .int .i64 0, .slice none 0 0, .int .i64 0, .int .i64 0, .bool false, .bool false, .bool false, .bool false, .bool false, .bool false, .bool false, .bool false, .slice none 0 0, .int .i64 0, .int .i64 0]), (g1, 26, #[.int .i64 a0_0, .slice (some ad) l0_1.length c0_1])]) ∧ Aside0 (Kd.R k89 89 w' w.heap.size (fun _ => True) v ys))
    case atStart => exact ⟨10, [], _, rfl, HX, K7, HR0⟩
    case round =>
    clear HX K7 HR0
    obtain ⟨i, ys, v, rfl, HX, K, HRs⟩ := hrel
    obtain ⟨A0, c0, rfl⟩ := Kd.R_slice HRs.out
    cases gk with
    | zero => exact absurd HX.out (by simp [rcodLoop])
    | succ kk =>
    have hs := HX.out
    clear HX
    rw [rcodLoop.eq_2] at hs
    by_cases hn : i < rcodN l0_1
    rotate_left
    · rw [if_neg hn] at hs
      have hn0 : decide (i < rcodN l0_1) = false := decide_eq_false hn
      obtain rfl : ys = xs := Option.some.inj hs
      clear hs
      go_wp2_with (first
        | ((with_reducible refine gate_dst (N := 125) rfl ?_); refine load_ev rfl 55 (.tmp 8) rfl rfl (K.out.get 0 rfl) Try.underlying55 rfl ?_)
        | (refine store_ev rfl rfl 55 (.tmp 2) (.tmp 125) rfl rfl rfl (K.out.get 1 rfl) rfl rfl (by first | (kernel_rfl) | (simp [Value.oneCell'])) ?_; intro W13 hs; have Kz := Aside0.mk (K.out.stored 1 rfl hs); have HRz := Aside0.mk (row_stored HRs.out (K.out.get 1 rfl) (by decide) hs); clear hs))
      refine bodyPost_ret (results_ct rfl _ _ g2 55 _ (0, 0) _ rfl (Kz.out.get 1 rfl) Try.underlying55 rfl (by kernel_rfl)) rfl ?_
      exact ⟨_, _, rfl, HRz.out, Kd.R_nil (Kd.int .i64) 3 _ _ _, Kz.out.below⟩
    rw [if_pos hn] at hs
    have hn1 : decide (i < rcodN l0_1) = true := decide_eq_true hn
    simp only [Option.ite_none_right_eq_some] at hs
    obtain ⟨⟨hi0, hi1⟩, hlim, hs⟩ := hs
    have HX := Aside0.mk hs
    have HLIM := Aside0.mk hlim
    clear hs hlim
    have hS : ∀ W, Below w.heap.size w W → W.cell? (ad.add i.toNat) = some (.int .u8 (rd l0_1 i)) := fun W hB => by
      obtain ⟨ad', e0, hx⟩ := Kd.at_int (Kd.C_below HR.out hB) i hi0 hi1
      cases e0
      exact hx
    clear HS
    have HS := Aside0.mk hS
    clear hS
    have p0 : (0 ≤ i) = True := eq_true hi0
    have p1 : (i < (l0_1.length : Int)) = True := eq_true hi1
    clear hi0 hi1
    go_wp2
    have K1 := Aside0.mk K.out.drew
    have HR1 := Aside0.mk (Kd.R_drew HRs.out)
    clear K HRs
    refine start_ (n := 19) (S := fun w' => w'.cell? ⟨g8, 5, none⟩ = some (.slice A0 ys.length c0) ∧ w'.cell? (ad.add i.toNat) = some (.int .u8 (rd l0_1 i))) (ds := [18]) #[false, false, false, false, false, false, false, false, false, false, false, false, false, false, false, false, false, false, false] (by kernel_rfl) rfl rfl ⟨K1.out.cell 0 rfl 5 rfl, HS.out _ K1.out.below⟩ (fun hHeld => ?_)
    generalize wr.drew = w5 at *
    refine pure_ (i := 0) (N := some 107) (v := ?_) (a' := ?_) #[true, false, false, false, false, false, false, false, false, false, false, false, false, false, false, false, false, false, false] rfl rfl (by kernel_rfl) (fun _ _ _ h => h) (Or.inl ⟨by rfl, ?_⟩) ?_ ?_
    rotate_left
    · intro w'
      go_simp
      with_reducible rfl
    rotate_left
    · simp only [Act.put, List.setIfInBounds_toArray, List.set_cons_zero, List.set_cons_succ, i64_w, i32_w]
      rfl
    refine pure_ (i := 2) (N := some 109) (v := ?_) (a' := ?_) #[true, false, true, false, false, false, false, false, false, false, false, false, false, false, false, false, false, false, false] rfl rfl (by kernel_rfl) (fun _ _ _ h => h) (Or.inl ⟨by rfl, ?_⟩) ?_ ?_
    rotate_left
    · intro w'
      go_simp
      with_reducible rfl
    rotate_left
    · simp only [Act.put, List.setIfInBounds_toArray, List.set_cons_zero, List.set_cons_succ, i64_w, i32_w]
      rfl
    refine pure_ (i := 3) (N := some 110) (v := ?_) (a' := ?_) #[true, false, true, true, false, false, false, false, false, false, false, false, false, false, false, false, false, false, false] rfl rfl (by kernel_rfl) (fun _ _ _ h => h) (Or.inl ⟨by rfl, ?_⟩) ?_ ?_
    rotate_left
    · intro w'
      go_simp
      with_reducible rfl
    rotate_left
    · simp only [Act.put, List.setIfInBounds_toArray, List.set_cons_zero, List.set_cons_succ, i64_w, i32_w]
      rfl
    refine pure_ (i := 4) (N := some 111) (v := ?_) (a' := ?_) #[true, false, true, true, true, false, false, false, false, false, false, false, false, false, false, false, false, false, false] rfl rfl (by kernel_rfl) (fun _ _ _ h => h) (Or.inl ⟨by rfl, ?_⟩) ?_ ?_
    rotate_left
    · intro w'
      go_simp
      with_reducible rfl
    rotate_left
    · simp only [Act.put, List.setIfInBounds_toArray, List.set_cons_zero, List.set_cons_succ, i64_w, i32_w]
      rfl
    refine pure_ (i := 8) (N := some 115) (v := ?_) (a' := ?_) #[true, false, true, true, true, false, false, false, true, false, false, false, false, false, false, false, false, false, false] rfl rfl (by kernel_rfl) (fun _ _ _ h => h) (Or.inl ⟨by rfl, ?_⟩) ?_ ?_
    rotate_left
    · intro w'
      go_simp
      with_reducible rfl
    rotate_left
    · simp only [Act.put, List.setIfInBounds_toArray, List.set_cons_zero, List.set_cons_succ, i64_w, i32_w]
      rfl
    refine pure_ (i := 9) (N := some 116) (v := ?_) (a' := ?_) #[true, false, true, true, true, false, false, false, true, true, false, false, false, false, false, false, false, false, false] rfl rfl (by kernel_rfl) (fun _ _ _ h => h) (Or.inl ⟨by rfl, ?_⟩) ?_ ?_
    rotate_left
    · intro w'
      go_simp
      with_reducible rfl
    rotate_left
    · simp only [Act.put, List.setIfInBounds_toArray, List.set_cons_zero, List.set_cons_succ, i64_w, i32_w]
      rfl
    refine pure_ (i := 10) (N := some 117) (v := ?_) (a' := ?_) #[true, false, true, true, true, false, false, false, true, true, true, false, false, false, false, false, false, false, false] rfl rfl (by kernel_rfl) (fun _ _ _ h => h) (Or.inl ⟨by rfl, ?_⟩) ?_ ?_
    rotate_left
    · intro w'
      go_simp
      with_reducible rfl
    rotate_left
    · simp only [Act.put, List.setIfInBounds_toArray, List.set_cons_zero, List.set_cons_succ, i64_w, i32_w]
      rfl
    refine take_ (i := 1) (N := some 108) (v := ?_) (a' := ?_) #[true, true, true, true, true, false, false, false, true, true, true, false, false, false, false, false, false, false, false] rfl rfl (by kernel_rfl) (fun _ _ _ h => h) (Or.inl ⟨by rfl, ?_⟩) hHeld ?_ ?_
    rotate_left
    · rintro w' ⟨s0, s1⟩
      go_simp
      with_reducible rfl
    rotate_left
    · simp only [Act.put, List.setIfInBounds_toArray, List.set_cons_zero, List.set_cons_succ, i64_w, i32_w]
      rfl
    refine take_ (i := 5) (N := some 112) (v := ?_) (a' := ?_) #[true, true, true, true, true, true, false, false, true, true, true, false, false, false, false, false, false, false, false] rfl rfl (by kernel_rfl) (fun _ _ _ h => h) (Or.inl ⟨by rfl, ?_⟩) hHeld ?_ ?_
    rotate_left
    · rintro w' ⟨s0, s1⟩
      go_simp
      with_reducible rfl
    rotate_left
    · simp only [Act.put, List.setIfInBounds_toArray, List.set_cons_zero, List.set_cons_succ, i64_w, i32_w]
      rfl
    refine take_ (i := 11) (N := some 118) (v := ?_) (a' := ?_) #[true, true, true, true, true, true, false, false, true, true, true, true, false, false, false, false, false, false, false] rfl rfl (by kernel_rfl) (fun _ _ _ h => h) (Or.inl ⟨by rfl, ?_⟩) hHeld ?_ ?_
    rotate_left
    · rintro w' ⟨s0, s1⟩
      go_simp
      with_reducible rfl
    rotate_left
    · simp only [Act.put, List.setIfInBounds_toArray, List.set_cons_zero, List.set_cons_succ, i64_w, i32_w]
      rfl
    refine pure_ (i := 6) (N := some 113) (v := ?_) (a' := ?_) #[true, true, true, true, true, true, true, false, true, true, true, true, false, false, false, false, false, false, false] rfl rfl (by kernel_rfl) (fun _ _ _ h => h) (Or.inl ⟨by rfl, ?_⟩) ?_ ?_
    rotate_left
    · intro w'
      go_simp
      with_reducible rfl
    rotate_left
    · simp only [Act.put, List.setIfInBounds_toArray, List.set_cons_zero, List.set_cons_succ, i64_w, i32_w]
      rfl
    refine pure_ (i := 7) (N := some 114) (v := ?_) (a' := ?_) #[true, true, true, true, true, true, true, true, true, true, true, true, false, false, false, false, false, false, false] rfl rfl (by kernel_rfl) (fun _ _ _ h => h) (Or.inl ⟨by rfl, ?_⟩) ?_ ?_
    rotate_left
    · intro w'
      go_simp
      with_reducible rfl
    rotate_left
    · simp only [Act.put, List.setIfInBounds_toArray, List.set_cons_zero, List.set_cons_succ, i64_w, i32_w]
      rfl
    refine pure_ (i := 12) (N := some 119) (v := ?_) (a' := ?_) #[true, true, true, true, true, true, true, true, true, true, true, true, true, false, false, false, false, false, false] rfl rfl (by kernel_rfl) (fun _ _ _ h => h) (Or.inl ⟨by rfl, ?_⟩) ?_ ?_
    rotate_left
    · intro w'
      go_simp
      with_reducible rfl
    rotate_left
    · simp only [Act.put, List.setIfInBounds_toArray, List.set_cons_zero, List.set_cons_succ, i64_w, i32_w]
      rfl
    refine pure_ (i := 13) (N := some 120) (v := ?_) (a' := ?_) #[true, true, true, true, true, true, true, true, true, true, true, true, true, true, false, false, false, false, false] rfl rfl (by kernel_rfl) (fun _ _ _ h => h) (Or.inl ⟨by rfl, ?_⟩) ?_ ?_
    rotate_left
    · intro w'
      go_simp
      with_reducible rfl
    rotate_left
    · simp only [Act.put, List.setIfInBounds_toArray, List.set_cons_zero, List.set_cons_succ, i64_w, i32_w]
      rfl
    refine pure_ (i := 14) (N := some 121) (v := ?_) (a' := ?_) #[true, true, true, true, true, true, true, true, true, true, true, true, true, true, true, false, false, false, false] rfl rfl (by kernel_rfl) (fun _ _ _ h => h) (Or.inl ⟨by rfl, ?_⟩) ?_ ?_
    rotate_left
    · intro w'
      go_simp
      with_reducible rfl
    rotate_left
    · simp only [Act.put, List.setIfInBounds_toArray, List.set_cons_zero, List.set_cons_succ, i64_w, i32_w]
      rfl
    refine one_ (i := 15) (N := some 122) #[true, true, true, true, true, true, true, true, true, true, true, true, true, true, true, true, false, false, false] rfl rfl (by kernel_rfl) (by decide) (fun K hK => ?_)
    refine value_ (w1 := ?_) (v := ?_) (by rfl) rfl ?_ ?_
    rotate_left 2
    · go_simp
      constructor
      · rfl
      · rfl
    refine hK.out _ _ ⟨(blk_cell (blk_alloc (K1.out.get 0 rfl) _) 5).trans rfl, HS.out _ (below_alloc K1.out.below _)⟩ (fun hHeld => ?_)
    clear hK K
    refine norm_ (a' := ?_) ?_ ?_
    rotate_left
    · show Act.put _ (some 122) _ = _
      simp only [Act.put, List.setIfInBounds_toArray, List.set_cons_zero, List.set_cons_succ, i64_w, i32_w]
      rfl
    refine one_ (i := 16) (N := some 123) #[true, true, true, true, true, true, true, true, true, true, true, true, true, true, true, true, true, false, false] rfl rfl (by kernel_rfl) (by decide) (fun K hK => ?_)
    refine Kd.R_append_step k89 (w0 := w) w.heap.size (by rfl) (.tmp 108) (.tmp 122) 50 89 (.agg #[.int .i64 0, .int .i64 0]) 16 rfl Try.underlying50 info89 rfl (by decide) (by omega) (.slice A0 ys.length c0) ys (⟨Int.tmod (wrap64 (rd l0_1 i)) 16, wrap64 (Int.tdiv (wrap64 (rd l0_1 i)) 16)⟩ : S89) [.int .i64 (Int.tmod (wrap64 (rd l0_1 i)) 16), .int .i64 (wrap64 (Int.tdiv (wrap64 (rd l0_1 i)) 16))] (fun _ => True) (fun _ => False) rfl rfl ?aP (fun _ hk => hk.elim) ?aF ?aO ?aB ?aS ?aL ?_
    (case aP => exact k89_mkM _ _ _ (⟨Int.tmod (wrap64 (rd l0_1 i)) 16, wrap64 (Int.tdiv (wrap64 (rd l0_1 i)) 16)⟩ : S89))
    (case aF => exact fun k hk => trivial)
    (case aO => exact HR1.out)
    (case aB => exact K1.out.below)
    (case aS => exact below_size K1.out.below)
    (case aL => have := HLIM.out; omega)
    intro v2 w7 ho hb hg hat
    obtain ⟨A2, c2, rfl⟩ := Kd.R_slice ho
    have K3 := Aside0.mk (K1.out.grownK HR1.out hg hb (fun j b hj => by
      match j, hj with
      | 0, hj | 1, hj | 2, hj => cases hj; first | exact (by decide : (89 : Nat) ≠ 55) | exact (by decide : (89 : Nat) ≠ 26)
      | j + 3, hj => simp at hj))
    have HR3 := Aside0.mk ho
    clear K1 HR1 ho hb hg hat hHeld
    refine hK.out _ _ ⟨K3.out.cell 0 rfl 5 rfl, HS.out _ K3.out.below⟩ (fun hHeld => ?_)
    clear hK K
    refine norm_ (a' := ?_) ?_ ?_
    rotate_left
    · show Act.put _ (some 123) _ = _
      simp only [Act.put, List.setIfInBounds_toArray, List.set_cons_zero, List.set_cons_succ, i64_w, i32_w]
      rfl
    refine pure_ (i := 17) (N := some 124) (v := ?_) (a' := ?_) #[true, true, true, true, true, true, true, true, true, true, true, true, true, true, true, true, true, true, false] rfl rfl (by kernel_rfl) (fun _ _ _ h => h) (Or.inl ⟨by rfl, ?_⟩) ?_ ?_
    rotate_left
    · intro w'
      go_simp
      with_reducible rfl
    rotate_left
    · simp only [Act.put, List.setIfInBounds_toArray, List.set_cons_zero, List.set_cons_succ, i64_w, i32_w]
      rfl
    refine last_ (i := 18) (N := none) #[true, true, true, true, true, true, true, true, true, true, true, true, true, true, true, true, true, true, true] rfl rfl (by kernel_rfl) (by decide) (fun K hK => ?_)
    have hst : w7.cell? ⟨g8, 5, none⟩ = some (.slice A0 ys.length c0) := K3.out.cell 0 rfl 5 rfl
    have hfs := blk_frozen (K3.out.get 0 rfl) 5
    refine skip_ (w1 := ?_) (by rfl) rfl ?_ ?_
    rotate_left
    · go_simp
      rfl
    refine hK.out _ _ ?_
    clear hK K
    refine done_ (by kernel_rfl) ?_
    clear hHeld hfs hst
    go_wp2
    go_roundg kk
    case measure => omega
    case rel => exact ⟨_, ys ++ [(⟨Int.tmod (wrap64 (rd l0_1 i)) 16, wrap64 (Int.tdiv (wrap64 (rd l0_1 i)) 16)⟩ : S89)], _, rfl, HX, ⟨K3.out.set 0 rfl 5 _ rfl⟩, ⟨by have h6 := row_set HR3.out (K3.out.get 0 rfl) (by decide) 5 (.slice A2 (ys.length + 1) c2); simpa using h6⟩⟩
end Go.Proofs.Ytihfopblmjgfaaa.Q

/- Coding. Printed by wip/tools/genCoding.py of this session. -/
namespace Go.Proofs.Ytihfopblmjgfaaa.Q
open Go.RowKit Go.Proofs.YtihfopblmjgfaaaW.PrintWords Go.Proofs.YtihfopblmjgfaaaW.PrintLast Go.Proofs.YtihfopblmjgfaaaW.PrintMore
set_option linter.unusedVariables false
set_option linter.unusedSimpArgs false
def bat (l : List Bool) (i : Int) : Bool := l.getD i.toNat false
theorem eight_ix (x0 x1 x2 x3 x4 x5 x6 x7 : Bool) (i : Int) (h0 : 0 ≤ i) (h1 : i < 8) (W : World) : (Instr.index 90 (.agg #[.bool x0, .bool x1, .bool x2, .bool x3, .bool x4, .bool x5, .bool x6, .bool x7]) (.int .i64 i)).run Try.prog W = .ok (.bool (bat [x0, x1, x2, x3, x4, x5, x6, x7] i)) W := by
  have h : i = 0 ∨ i = 1 ∨ i = 2 ∨ i = 3 ∨ i = 4 ∨ i = 5 ∨ i = 6 ∨ i = 7 := by omega
  rcases h with rfl | rfl | rfl | rfl | rfl | rfl | rfl | rfl
  · exact (show ∀ W : World, (Instr.index 90 (.agg #[.bool x0, .bool x1, .bool x2, .bool x3, .bool x4, .bool x5, .bool x6, .bool x7]) (.int .i64 0)).run Try.prog W = .ok (.bool x0) W from fun _ => by kernel_rfl) W
  · exact (show ∀ W : World, (Instr.index 90 (.agg #[.bool x0, .bool x1, .bool x2, .bool x3, .bool x4, .bool x5, .bool x6, .bool x7]) (.int .i64 1)).run Try.prog W = .ok (.bool x1) W from fun _ => by kernel_rfl) W
  · exact (show ∀ W : World, (Instr.index 90 (.agg #[.bool x0, .bool x1, .bool x2, .bool x3, .bool x4, .bool x5, .bool x6, .bool x7]) (.int .i64 2)).run Try.prog W = .ok (.bool x2) W from fun _ => by kernel_rfl) W
  · exact (show ∀ W : World, (Instr.index 90 (.agg #[.bool x0, .bool x1, .bool x2, .bool x3, .bool x4, .bool x5, .bool x6, .bool x7]) (.int .i64 3)).run Try.prog W = .ok (.bool x3) W from fun _ => by kernel_rfl) W
  · exact (show ∀ W : World, (Instr.index 90 (.agg #[.bool x0, .bool x1, .bool x2, .bool x3, .bool x4, .bool x5, .bool x6, .bool x7]) (.int .i64 4)).run Try.prog W = .ok (.bool x4) W from fun _ => by kernel_rfl) W
  · exact (show ∀ W : World, (Instr.index 90 (.agg #[.bool x0, .bool x1, .bool x2, .bool x3, .bool x4, .bool x5, .bool x6, .bool x7]) (.int .i64 5)).run Try.prog W = .ok (.bool x5) W from fun _ => by kernel_rfl) W
  · exact (show ∀ W : World, (Instr.index 90 (.agg #[.bool x0, .bool x1, .bool x2, .bool x3, .bool x4, .bool x5, .bool x6, .bool x7]) (.int .i64 6)).run Try.prog W = .ok (.bool x6) W from fun _ => by kernel_rfl) W
  · exact (show ∀ W : World, (Instr.index 90 (.agg #[.bool x0, .bool x1, .bool x2, .bool x3, .bool x4, .bool x5, .bool x6, .bool x7]) (.int .i64 7)).run Try.prog W = .ok (.bool x7) W from fun _ => by kernel_rfl) W
theorem Bks.grown2 {α : Type} {d : Kd α} {e : Nat} {n : Nat} {w0 W W' : World} {g t g' t' : Nat} {cs cs' : Array Value} (h : Bks n w0 W [(g, t, cs), (g', t', cs')]) {base : Nat} {ok : Nat → Prop} {v : Value} {xs : List α} (hR : d.R e W base ok v xs) (hg : W.grownBy W' v.ownBlock) (hb : Below n w0 W') (h1 : e ≠ t) (h2 : e ≠ t') : Bks n w0 W' [(g, t, cs), (g', t', cs')] :=
  h.grownK hR hg hb (fun j b hj => by
    match j, hj with
    | 0, hj => cases hj; exact h1
    | 1, hj => cases hj; exact h2
    | j + 2, hj => simp at hj)
theorem Bks.far2 {n : Nat} {w0 W : World} {g t g' t' : Nat} {cs cs' : Array Value} (h : Bks n w0 W [(g, t, cs), (g', t', cs')]) {p : Addr} (h1 : g ≠ p.block) (h2 : g' ≠ p.block) (hp : n ≤ p.block) (u : Value) : Bks n w0 (W.setCell p u) [(g, t, cs), (g', t', cs')] :=
  ⟨fun j b hj => by
    match j, hj with
    | 0, hj => cases hj; exact blk_far (h.get 0 rfl) h1 u
    | 1, hj => cases hj; exact blk_far (h.get 1 rfl) h2 u
    | j + 2, hj => simp at hj, h.ne, h.ge, h.below.setCell hp u⟩
theorem Bks.tl {n : Nat} {w0 W : World} {x : Nat × Nat × Array Value} {l : List (Nat × Nat × Array Value)} (h : Bks n w0 W (x :: l)) : Bks n w0 W l :=
  ⟨fun i b hi => h.blk (i + 1) b (by simpa using hi), fun i j b c hij hi hj => h.ne (i + 1) (j + 1) b c (by omega) (by simpa using hi) (by simpa using hj), fun i b hi => h.ge (i + 1) b (by simpa using hi), h.below⟩
/-- The precincts' bytes. -/
def hcC : Nat → List S89 → List Int → Int → Option (Int × List Int × Int)
  | 0, _, _, _ => none
  | k + 1, t, b, i => if i < (t.length : Int) then (if 0 ≤ i then (headseg_within.f k 0 15 [(rd_T89 t i).f0, (rd_T89 t i).f1]).bind fun c => (if c = true then (if b.length < 1000000 then hcC k t (b ++ [wrap64 ((rd_T89 t i).f0 + wrap64 (16 * (rd_T89 t i).f1)) % 256]) (wrap64 (i + 1)) else none) else some (0, [], 2)) else none) else some (65442, b, 0)
/-- The numbers' bytes. -/
def hcB : Nat → List S89 → List Int → List Int → Int → Option (Int × List Int × Int)
  | 0, _, _, _, _ => none
  | k + 1, t, L, b, i => if i < (L.length : Int) then (if 0 ≤ i then (if b.length < 1000000 then hcB k t L (b ++ [rd L i % 256]) (wrap64 (i + 1)) else none) else none) else hcC k t b 0
/-- The flags. -/
def hcA : Nat → List S89 → List Bool → List Int → Int → Option (Int × List Int × Int)
  | 0, _, _, _, _ => none
  | k + 1, t, fl, L, i => if i < 8 then (if 0 ≤ i then (if bat fl i = true then hcA k t fl (L.set 7 (Go.bits .or .i64 (rd L 7) (wrap64 (2 ^ min i.toNat 64)))) (wrap64 (i + 1)) else hcA k t fl L (wrap64 (i + 1))) else none) else hcB k t (L ++ [(t.length : Int)]) [] 0
theorem hcC.mono : ∀ k t b i, LeO (hcC k t b i) (hcC (k + 1) t b i)
  | 0, _, _, _ => LeO.none _
  | k + 1, t, b, i => by
    rw [hcC.eq_2, hcC.eq_2]
    exact LeO.ite (LeO.ite (LeO.bind (headseg_within.mono _ _ _ _) fun _ => LeO.ite (LeO.ite (hcC.mono _ _ _ _) (LeO.refl _)) (LeO.refl _)) (LeO.refl _)) (LeO.refl _)
theorem hcB.mono : ∀ k t L b i, LeO (hcB k t L b i) (hcB (k + 1) t L b i)
  | 0, _, _, _, _ => LeO.none _
  | k + 1, t, L, b, i => by
    rw [hcB.eq_2, hcB.eq_2]
    exact LeO.ite (LeO.ite (LeO.ite (hcB.mono _ _ _ _ _) (LeO.refl _)) (LeO.refl _)) (hcC.mono _ _ _ _)
theorem hcA.mono : ∀ k t fl L i, LeO (hcA k t fl L i) (hcA (k + 1) t fl L i)
  | 0, _, _, _, _ => LeO.none _
  | k + 1, t, fl, L, i => by
    rw [hcA.eq_2, hcA.eq_2]
    exact LeO.ite (LeO.ite (LeO.ite (hcA.mono _ _ _ _ _) (hcA.mono _ _ _ _ _)) (LeO.refl _)) (hcB.mono _ _ _ _ _)

def headseg_Coding.f (k : Nat) (a0_0 : Int) (a0_1 : Int) (a0_2 : Int) (a0_3 : Int) (a0_4 : Int) (l0_5 : List (S89)) (a0_6 : Int) (a0_7 : Int) (a0_8 : Bool) (a0_9 : Bool) (a0_10 : Bool) (a0_11 : Bool) (a0_12 : Bool) (a0_13 : Bool) (a0_14 : Bool) (a0_15 : Bool) (l0_16 : List Int) (a0_17 : Int) (a0_18 : Int) : Option (Int × List Int × Int) :=
  (headseg_within.f k 0 255 [a0_0, a0_1, a0_2, a0_3, a0_4, a0_6, a0_7, 0, a0_18]).bind fun c => if c = true then (if (l0_5.length : Int) > 255 then some (0, [], 2) else hcA k l0_5 [a0_8, a0_9, a0_10, a0_11, a0_12, a0_13, a0_14, a0_15] [a0_0, a0_1, a0_2, a0_3, a0_4, a0_6, a0_7, 0, a0_18] 0) else some (0, [], 2)
theorem headseg_Coding.mono : ∀ a0 a1 a2 a3 a4 a5 a6 a7 a8 a9 a10 a11 a12 a13 a14 a15 a16 a17 a18 k, LeO (headseg_Coding.f k a0 a1 a2 a3 a4 a5 a6 a7 a8 a9 a10 a11 a12 a13 a14 a15 a16 a17 a18) (headseg_Coding.f (k + 1) a0 a1 a2 a3 a4 a5 a6 a7 a8 a9 a10 a11 a12 a13 a14 a15 a16 a17 a18) := by
  intro a0 a1 a2 a3 a4 a5 a6 a7 a8 a9 a10 a11 a12 a13 a14 a15 a16 a17 a18 k
  exact LeO.bind (headseg_within.mono _ _ _ _) (fun _ => LeO.ite (LeO.ite (LeO.refl _) (hcA.mono _ _ _ _ _)) (LeO.refl _))
set_option maxHeartbeats 8000000 in
set_option maxRecDepth 100000 in
theorem headseg_Coding.calls (k : Nat) (a0_0 : Int) (a0_1 : Int) (a0_2 : Int) (a0_3 : Int) (a0_4 : Int) (A0_5 : Option Addr) (c0_5 : Nat) (l0_5 : List (S89)) (a0_6 : Int) (a0_7 : Int) (a0_8 : Bool) (a0_9 : Bool) (a0_10 : Bool) (a0_11 : Bool) (a0_12 : Bool) (a0_13 : Bool) (a0_14 : Bool) (a0_15 : Bool) (A0_16 : Option Addr) (c0_16 : Nat) (l0_16 : List Int) (a0_17 : Int) (a0_18 : Int) (r1 : Int) (r2 : List Int) (r3 : Int) (w : World) (hr0_5 : Kd.C k89 w A0_5 l0_5.length l0_5) (hc0_5 : l0_5.length ≤ c0_5) (hr0_16 : Kd.C (Kd.int .i64) w A0_16 l0_16.length l0_16) (hc0_16 : l0_16.length ≤ c0_16) (h : headseg_Coding.f k a0_0 a0_1 a0_2 a0_3 a0_4 l0_5 a0_6 a0_7 a0_8 a0_9 a0_10 a0_11 a0_12 a0_13 a0_14 a0_15 l0_16 a0_17 a0_18 = some (r1, r2, r3)) :
    Calls Try.prog 33 #[.agg #[.int .i64 a0_0, .int .i64 a0_1, .int .i64 a0_2, .int .i64 a0_3, .int .i64 a0_4, .slice A0_5 l0_5.length c0_5, .int .i64 a0_6, .int .i64 a0_7, .bool a0_8, .bool a0_9, .bool a0_10, .bool a0_11, .bool a0_12, .bool a0_13, .bool a0_14, .bool a0_15, .slice A0_16 l0_16.length c0_16, .int .i64 a0_17, .int .i64 a0_18]] w fun e w' => ∃ v1_ : Value, e = .returned (.tuple #[.agg #[.int .i64 r1, v1_], .int .i64 r3]) ∧ Kd.R (Kd.int .u8) 5 w' w.heap.size (fun _ => True) v1_ r2 ∧ Below w.heap.size w w' := by
  unfold headseg_Coding.f at h
  obtain ⟨c1, hc1, h⟩ := Option.bind_eq_some_iff.mp h
  have H := Aside0.mk h
  have HW := Aside0.mk hc1
  have HR5 := Aside0.mk hr0_5
  have HR16 := Aside0.mk hr0_16
  have HC5 := Aside0.mk hc0_5
  have HC16 := Aside0.mk hc0_16
  clear h hc1 hr0_5 hr0_16 hc0_5 hc0_16
  have K00 := Aside0.mk (Bks.nil w)
  go_enter Try.func33, Try.ntmps33
  go_wp2_with (first
    | ((with_reducible refine gate_dst (N := 1) rfl ?_); refine box_event ?hg (N := 1) ?hd (cs := #[.int .i64 a0_0, .int .i64 a0_1, .int .i64 a0_2, .int .i64 a0_3, .int .i64 a0_4, .slice A0_5 l0_5.length c0_5, .int .i64 a0_6, .int .i64 a0_7, .bool a0_8, .bool a0_9, .bool a0_10, .bool a0_11, .bool a0_12, .bool a0_13, .bool a0_14, .bool a0_15, .slice A0_16 l0_16.length c0_16, .int .i64 a0_17, .int .i64 a0_18]) (t := 55) ?hr ?_; (case hd => rfl); (case hg => rfl); (case hr => first | (go_simp; done) | (go_simp; rfl)); intro g1 hg W1 hbox hb; have K0 := Aside0.mk (K00.out.box (Nat.le_refl _) hg hbox hb); clear hg hbox hb K00)
    | ((with_reducible refine gate_dst (N := 2) rfl ?_); refine box_event ?hg (N := 2) ?hd (cs := #[.int .i64 0, .slice none 0 0]) (t := 26) ?hr ?_; (case hd => rfl); (case hg => rfl); (case hr => first | (go_simp; done) | (go_simp; rfl)); intro g2 hg W2 hbox hb; have K1 := Aside0.mk (K0.out.box (below_size K0.out.below) hg hbox hb); clear hg hbox hb K0; have f0 : W2.cell? ⟨g1, 0, none⟩ = some (.int .i64 a0_0) := K1.out.cell 1 rfl 0 rfl; have f1 : W2.cell? ⟨g1, 1, none⟩ = some (.int .i64 a0_1) := K1.out.cell 1 rfl 1 rfl; have f2 : W2.cell? ⟨g1, 2, none⟩ = some (.int .i64 a0_2) := K1.out.cell 1 rfl 2 rfl; have f3 : W2.cell? ⟨g1, 3, none⟩ = some (.int .i64 a0_3) := K1.out.cell 1 rfl 3 rfl; have f4 : W2.cell? ⟨g1, 4, none⟩ = some (.int .i64 a0_4) := K1.out.cell 1 rfl 4 rfl; have f6 : W2.cell? ⟨g1, 6, none⟩ = some (.int .i64 a0_6) := K1.out.cell 1 rfl 6 rfl; have f7 : W2.cell? ⟨g1, 7, none⟩ = some (.int .i64 a0_7) := K1.out.cell 1 rfl 7 rfl; have f18 : W2.cell? ⟨g1, 18, none⟩ = some (.int .i64 a0_18) := K1.out.cell 1 rfl 18 rfl)
    | ((with_reducible refine gate_dst (N := 28) rfl ?_); refine Kd.R_lit (Kd.int .i64) (w0 := W2) W2.heap.size 3 ?hg (N := 28) ?hd (xs := ([a0_0, a0_1, a0_2, a0_3, a0_4, a0_6, a0_7, 0, a0_18] : List Int)) (inner := [.int .i64 a0_0, .int .i64 a0_1, .int .i64 a0_2, .int .i64 a0_3, .int .i64 a0_4, .int .i64 a0_6, .int .i64 a0_7, .int .i64 0, .int .i64 a0_18]) (ok := fun _ => True) (okp := fun _ => True) ?hr ?hp (fun _ hk => hk) trivial (Below.refl _ _) (Nat.le_refl _) (by simp) ?_; (case hd => rfl); (case hg => rfl); (case hr => first | (go_simp; done) | (go_simp; rfl)); (case hp => exact (Reps.one (show Kd.M (Kd.int .i64) _ _ _ a0_0 [.int .i64 a0_0] from rfl) (Reps.one (show Kd.M (Kd.int .i64) _ _ _ a0_1 [.int .i64 a0_1] from rfl) (Reps.one (show Kd.M (Kd.int .i64) _ _ _ a0_2 [.int .i64 a0_2] from rfl) (Reps.one (show Kd.M (Kd.int .i64) _ _ _ a0_3 [.int .i64 a0_3] from rfl) (Reps.one (show Kd.M (Kd.int .i64) _ _ _ a0_4 [.int .i64 a0_4] from rfl) (Reps.one (show Kd.M (Kd.int .i64) _ _ _ a0_6 [.int .i64 a0_6] from rfl) (Reps.one (show Kd.M (Kd.int .i64) _ _ _ a0_7 [.int .i64 a0_7] from rfl) (Reps.one (show Kd.M (Kd.int .i64) _ _ _ 0 [.int .i64 0] from rfl) (Reps.one (show Kd.M (Kd.int .i64) _ _ _ a0_18 [.int .i64 a0_18] from rfl) (Reps.none _ _))))))))))); intro v1 w3 ho hb hg_ hnew_; have HL := Aside0.mk (Kd.R_lower ho (below_size K1.out.below)); have K2 := Aside0.mk (K1.out.call (below_size K1.out.below) hb); clear hg_ hnew_ ho hb f0 f1 f2 f3 f4 f6 f7 f18)
    | (go_at_call 43; fail))
  obtain ⟨gL, cL, e9, -⟩ := Kd.R_form HL.out (by simp)
  replace e9 : v1 = .slice (some ⟨gL, 0, none⟩) 9 cL := e9
  subst e9
  refine (headseg_within.calls k 0 255 (some ⟨gL, 0, none⟩) cL [a0_0, a0_1, a0_2, a0_3, a0_4, a0_6, a0_7, 0, a0_18] c1 _ (Kd.R_reads' HL.out).2.2 (Kd.R_reads' HL.out).2.1 HW.out).mono ?_
  rintro _ w4 ⟨rfl, hd⟩
  have K3 := Aside0.mk (K2.out.call (below_size K2.out.below) hd.below)
  have HL3 := Aside0.mk (Kd.R_below HL.out hd.below)
  clear K2 HL hd HW
  have hs := H.out
  clear H
  cases c1 with
  | false =>
    rw [if_neg (by simp)] at hs
    simp only [Option.some.injEq, Prod.mk.injEq] at hs
    obtain ⟨rfl, rfl, rfl⟩ := hs
    go_wp2_with (refine store_ev rfl rfl 26 (.tmp 2) (.tmp 38) rfl rfl rfl (K3.out.get 0 rfl) rfl rfl (by first | (kernel_rfl) | (simp [Value.oneCell'])) ?_; intro W8 hs; have K7 := Aside0.mk (K3.out.stored 0 rfl hs); clear hs)
    refine bodyPost_ret (results_ct rfl _ _ g2 26 _ (0, 0) _ rfl (K7.out.get 0 rfl) Try.underlying26 rfl (by kernel_rfl)) rfl ?_
    exact ⟨_, rfl, Kd.R_nil (Kd.int .u8) 5 _ _ _, K7.out.below⟩
  | true =>
  rw [if_pos rfl] at hs
  have f5 : w4.cell? ⟨g1, 5, none⟩ = some (.slice A0_5 l0_5.length c0_5) := K3.out.cell 1 rfl 5 rfl
  by_cases h2 : (l0_5.length : Int) > 255
  · rw [if_pos h2] at hs
    simp only [Option.some.injEq, Prod.mk.injEq] at hs
    obtain ⟨rfl, rfl, rfl⟩ := hs
    have hb0 : decide (255 < (l0_5.length : Int)) = true := decide_eq_true h2
    have hb1 : decide (255 < l0_5.length) = true := decide_eq_true (by omega)
    clear h2
    go_wp2_with (refine store_ev rfl rfl 26 (.tmp 2) (.tmp 38) rfl rfl rfl (K3.out.get 0 rfl) rfl rfl (by first | (kernel_rfl) | (simp [Value.oneCell'])) ?_; intro W8 hs; have K7 := Aside0.mk (K3.out.stored 0 rfl hs); clear hs)
    refine bodyPost_ret (results_ct rfl _ _ g2 26 _ (0, 0) _ rfl (K7.out.get 0 rfl) Try.underlying26 rfl (by kernel_rfl)) rfl ?_
    exact ⟨_, rfl, Kd.R_nil (Kd.int .u8) 5 _ _ _, K7.out.below⟩
  rw [if_neg h2] at hs
  have hb0 : decide (255 < (l0_5.length : Int)) = false := decide_eq_false h2
  have hb1 : decide (255 < l0_5.length) = false := decide_eq_false (by omega)
  have HX := Aside0.mk hs
  have H255 := Aside0.mk h2
  clear h2 hs
  go_wp2_with (first
    | ((with_reducible refine gate_dst (N := 39) rfl ?_); refine load_ev rfl 55 (.tmp 1) rfl rfl (K3.out.get 1 rfl) Try.underlying55 rfl ?_)
    | (go_at_call 56; fail))
  refine (headseg_flags.calls _ _ _ _ _ _ _ _ _ _ _ a0_8 a0_9 a0_10 a0_11 a0_12 a0_13 a0_14 a0_15 _).mono ?_
  rintro _ w5 ⟨rfl, hd⟩
  have K4 := Aside0.mk (K3.out.call (below_size K3.out.below) hd)
  have HL4 := Aside0.mk (Kd.R_below HL3.out hd)
  clear K3 HL3 hd f5 hb0 hb1
  go_wp2
  go_loopg [41] k (fun kq v41 w' => ∃ (i : Int) (L : List Int), v41 = .int .i64 i ∧ Aside0 (L.length = 9) ∧ Aside0 (hcA kq l0_5 [a0_8, a0_9, a0_10, a0_11, a0_12, a0_13, a0_14, a0_15] L i = some (r1, r2, r3)) ∧ Aside0 (Bks w.heap.size w w' [(g2, 26, #[.int .i64 0, .slice none 0 0]), (g1, 55, #[.int .i64 a0_0, .int .i64 a0_1, .int .i64 a0_2, .int .i64 a0_3, .int .i64 a0_4, .slice A0_5 l0_5.length c0_5, .int .i64 a0_6, .int .i64 a0_7, .bool a0_8, .bool a0_9, .bool a0_10, .bool a0_11, .bool a0_12, .bool a0_13, .bool a0_14, .bool a0_15, .slice A0_16 l0_16.length c0_16, .int .i64 a0_17, .int .i64 a0_18])]) ∧ Aside0 (Kd.R (Kd.int .i64) 3 w' w.heap.size (fun _ => True) (.slice (some ⟨gL, 0, none⟩) 9 cL) L))
  case atStart => exact ⟨0, [a0_0, a0_1, a0_2, a0_3, a0_4, a0_6, a0_7, 0, a0_18], rfl, ⟨rfl⟩, HX, K4, HL4⟩
  case round =>
  clear HX K4 HL4
  obtain ⟨i, L, rfl, HN, HX, K, HL⟩ := hrel
  cases gk with
  | zero => exact absurd HX.out (by simp [hcA])
  | succ kk =>
  have hs := HX.out
  clear HX
  rw [hcA.eq_2] at hs
  by_cases hi : i < 8
  rotate_left
  · rw [if_neg hi] at hs
    have HX := Aside0.mk hs
    have hb0 : decide (i < 8) = false := decide_eq_false hi
    clear hs hi
    have f5 : wr.cell? ⟨g1, 5, none⟩ = some (.slice A0_5 l0_5.length c0_5) := K.out.cell 1 rfl 5 rfl
    obtain ⟨L', hL'⟩ : ∃ L' : List Int, L' = L ++ [(l0_5.length : Int)] := ⟨_, rfl⟩
    rw [← hL'] at HX
    have NL := Aside0.mk hL'
    clear hL'
    go_wp2_with (first
      | ((with_reducible refine gate_builtin (b := .append) (xs := #[.tmp 55, .tmp 59]) rfl ?_); at_builtin; refine Kd.R_append (Kd.int .i64) (w0 := w) w.heap.size rfl (.tmp 55) (.tmp 59) 39 3 (.int .i64 0) 8 rfl Try.underlying39 info3 rfl (by decide) (by omega) (.slice (some ⟨gL, 0, none⟩) 9 cL) L (l0_5.length : Int) [.int .i64 (l0_5.length : Int)] (fun _ => True) (fun _ => False) rfl rfl ?aP (fun _ hk => hk.elim) ?aF ?aO ?aB ?aS ?aL ?_; (case aP => exact rfl); (case aF => exact fun k hk => trivial); (case aO => exact HL.out); (case aB => exact K.out.below); (case aS => exact below_size K.out.below); (case aL => have := HN.out; omega); intro v2 w7 ho hb hg hat; rw [← NL.out] at ho; have K5 := Aside0.mk (K.out.grown2 HL.out hg hb (by decide) (by decide)); have HL5 := Aside0.mk ho; clear K HL ho hb hg hat f5; obtain ⟨AL, cL', rfl⟩ := Kd.R_slice HL5.out))
    go_loopg [7, 62] kk (fun kq v7 v62 w' => ∃ (i : Int) (b : List Int), v62 = .int .i64 i ∧ Aside0 (hcB kq l0_5 L' b i = some (r1, r2, r3)) ∧ Aside0 (Bks w.heap.size w w' [(g2, 26, #[.int .i64 0, .slice none 0 0]), (g1, 55, #[.int .i64 a0_0, .int .i64 a0_1, .int .i64 a0_2, .int .i64 a0_3, .int .i64 a0_4, .slice A0_5 l0_5.length c0_5, .int .i64 a0_6, .int .i64 a0_7, .bool a0_8, .bool a0_9, .bool a0_10, .bool a0_11, .bool a0_12, .bool a0_13, .bool a0_14, .bool a0_15, .slice A0_16 l0_16.length c0_16, .int .i64 a0_17, .int .i64 a0_18])]) ∧ Aside0 (Kd.R (Kd.int .i64) 3 w' w.heap.size (fun _ => True) (.slice AL L'.length cL') L') ∧ Aside0 (Kd.R (Kd.int .u8) 5 w' w.heap.size (fun _ => True) v7 b))
    case atStart => exact ⟨0, [], rfl, HX, K5, HL5, ⟨Kd.R_nil _ _ _ _ _⟩⟩
    case round =>
    clear HX K5 HL5 hb0
    obtain ⟨i, b, rfl, HX, K, HL, HO⟩ := hrel
    cases gk with
    | zero => exact absurd HX.out (by simp [hcB])
    | succ kj =>
    have hs := HX.out
    clear HX
    rw [hcB.eq_2] at hs
    by_cases hi : i < (L'.length : Int)
    rotate_left
    · rw [if_neg hi] at hs
      have HX := Aside0.mk hs
      have hb0 : decide (i < (L'.length : Int)) = false := decide_eq_false hi
      clear hs hi
      have f5 : wr.cell? ⟨g1, 5, none⟩ = some (.slice A0_5 l0_5.length c0_5) := K.out.cell 1 rfl 5 rfl
      go_wp2
      have h5 : l0_5.length ≤ 9223372036854775807 := HR5.out.2.1
      have H5 := Aside0.mk h5
      clear h5
      go_loopg [7, 75] kj (fun kq v7 v75 w' => ∃ (i : Int) (b : List Int), v75 = .int .i64 i ∧ Aside0 (hcC kq l0_5 b i = some (r1, r2, r3)) ∧ Aside0 (Bks w.heap.size w w' [(g2, 26, #[.int .i64 0, .slice none 0 0]), (g1, 55, #[.int .i64 a0_0, .int .i64 a0_1, .int .i64 a0_2, .int .i64 a0_3, .int .i64 a0_4, .slice A0_5 l0_5.length c0_5, .int .i64 a0_6, .int .i64 a0_7, .bool a0_8, .bool a0_9, .bool a0_10, .bool a0_11, .bool a0_12, .bool a0_13, .bool a0_14, .bool a0_15, .slice A0_16 l0_16.length c0_16, .int .i64 a0_17, .int .i64 a0_18])]) ∧ Aside0 (Kd.R (Kd.int .u8) 5 w' w.heap.size (fun _ => True) v7 b))
      case atStart => exact ⟨0, b, rfl, HX, K, HO⟩
      case round =>
      clear HX K HL HO hb0 f5
      obtain ⟨i, b, rfl, HX, K, HO⟩ := hrel
      cases gk with
      | zero => exact absurd HX.out (by simp [hcC])
      | succ km =>
      have hs := HX.out
      clear HX
      rw [hcC.eq_2] at hs
      by_cases hi : i < (l0_5.length : Int)
      rotate_left
      · rw [if_neg hi] at hs
        have hb0 : decide (i < (l0_5.length : Int)) = false := decide_eq_false hi
        simp only [Option.some.injEq, Prod.mk.injEq] at hs
        obtain ⟨rfl, rfl, rfl⟩ := hs
        clear hi
        obtain ⟨Ab, cb, rfl⟩ := Kd.R_slice HO.out
        go_wp2_with (refine store_ev rfl rfl 26 (.tmp 2) (.tmp 99) rfl rfl rfl (K.out.get 0 rfl) rfl rfl (by first | (kernel_rfl) | (simp [Value.oneCell'])) ?_; intro W8 hs; have K7 := Aside0.mk (K.out.stored 0 rfl hs); have HO7 := Aside0.mk (row_stored HO.out (K.out.get 0 rfl) (by decide) hs); clear hs)
        refine bodyPost_ret (results_ct rfl _ _ g2 26 _ (0, 0) _ rfl (K7.out.get 0 rfl) Try.underlying26 rfl (by kernel_rfl)) rfl ?_
        exact ⟨_, rfl, HO7.out, K7.out.below⟩
      rw [if_pos hi] at hs
      by_cases hi0 : 0 ≤ i
      rotate_left
      · rw [if_neg hi0] at hs
        cases hs
      rw [if_pos hi0] at hs
      obtain ⟨c, hin, hs⟩ := Option.bind_eq_some_iff.mp hs
      have HI := Aside0.mk hin
      have HX := Aside0.mk hs
      have hb0 : decide (i < (l0_5.length : Int)) = true := decide_eq_true hi
      obtain ⟨ad, e0, x0, x1⟩ := at_T89 (Kd.C_below HR5.out K.out.below) i hi0 hi
      cases e0
      have p0 : (0 ≤ i) = True := eq_true hi0
      have p1 : (i < (l0_5.length : Int)) = True := eq_true hi
      clear hs hin hi hi0
      go_wp2_with (first
        | ((with_reducible refine gate_dst (N := 11) rfl ?_); refine box_event ?hg (N := 11) ?hd (cs := #[.int .i64 0, .int .i64 0]) (t := 89) ?hr ?_; (case hd => rfl); (case hg => rfl); (case hr => first | (go_simp; done) | (go_simp; rfl)); intro g11 hg W11 hbox hb; have K5 := Aside0.mk (K.out.box (below_size K.out.below) hg hbox hb); have HO5 := Aside0.mk (Kd.R_below HO.out hb); clear hg hbox hb x0 x1)
        | (refine store_ev rfl rfl 89 (.tmp 11) (.tmp 78) rfl rfl rfl (K5.out.get 0 rfl) rfl rfl (by first | (kernel_rfl) | (simp [Value.oneCell'])) ?_; intro W6 hs; have K6 := Aside0.mk (K5.out.stored 0 rfl hs); have HO6 := Aside0.mk (row_stored HO5.out (K5.out.get 0 rfl) (by decide) hs); clear hs; have q0 : W6.cell? ⟨g11, 0, none⟩ = some (.int .i64 (rd_T89 l0_5 i).f0) := K6.out.cell 0 rfl 0 rfl; have q1 : W6.cell? ⟨g11, 1, none⟩ = some (.int .i64 (rd_T89 l0_5 i).f1) := K6.out.cell 0 rfl 1 rfl)
        | ((with_reducible refine gate_dst (N := 83) rfl ?_); refine Kd.R_lit (Kd.int .i64) (w0 := W6) W6.heap.size 3 ?hg (N := 83) ?hd (xs := ([(rd_T89 l0_5 i).f0, (rd_T89 l0_5 i).f1] : List Int)) (inner := [.int .i64 (rd_T89 l0_5 i).f0, .int .i64 (rd_T89 l0_5 i).f1]) (ok := fun _ => True) (okp := fun _ => True) ?hr ?hp (fun _ hk => hk) trivial (Below.refl _ _) (Nat.le_refl _) (by simp) ?_; (case hd => rfl); (case hg => rfl); (case hr => first | (go_simp; done) | (go_simp; rfl)); (case hp => exact (Reps.one (show Kd.M (Kd.int .i64) _ _ _ (rd_T89 l0_5 i).f0 [.int .i64 (rd_T89 l0_5 i).f0] from rfl) (Reps.one (show Kd.M (Kd.int .i64) _ _ _ (rd_T89 l0_5 i).f1 [.int .i64 (rd_T89 l0_5 i).f1] from rfl) (Reps.none _ _)))); intro v1 w8 ho hb hg_ hnew_; have HM := Aside0.mk ho; have K7 := Aside0.mk (K6.out.call (below_size K6.out.below) hb); have HO7 := Aside0.mk (Kd.R_below HO6.out hb); clear hg_ hnew_ ho hb q0 q1)
        | (go_at_call 43; fail))
      obtain ⟨AM, cM, e9⟩ := Kd.R_slice HM.out
      replace e9 : v1 = .slice AM 2 cM := e9
      subst e9
      refine (headseg_within.calls km 0 15 AM cM [(rd_T89 l0_5 i).f0, (rd_T89 l0_5 i).f1] c _ (Kd.R_reads' HM.out).2.2 (Kd.R_reads' HM.out).2.1 HI.out).mono ?_
      rintro _ w9 ⟨rfl, hd⟩
      have K8 := Aside0.mk (K7.out.call (below_size K7.out.below) hd.below)
      have HO8 := Aside0.mk (Kd.R_below HO7.out hd.below)
      have hs := HX.out
      clear K5 HO5 K6 HO6 K7 HO7 HM hd HX K HO
      cases c with
      | false =>
        rw [if_neg (by simp)] at hs
        simp only [Option.some.injEq, Prod.mk.injEq] at hs
        obtain ⟨rfl, rfl, rfl⟩ := hs
        have K9 := Aside0.mk K8.out.tl
        clear K8
        go_wp2_with (refine store_ev rfl rfl 26 (.tmp 2) (.tmp 86) rfl rfl rfl (K9.out.get 0 rfl) rfl rfl (by first | (kernel_rfl) | (simp [Value.oneCell'])) ?_; intro W8 hs; have K7 := Aside0.mk (K9.out.stored 0 rfl hs); clear hs)
        refine bodyPost_ret (results_ct rfl _ _ g2 26 _ (0, 0) _ rfl (K7.out.get 0 rfl) Try.underlying26 rfl (by kernel_rfl)) rfl ?_
        exact ⟨_, rfl, Kd.R_nil (Kd.int .u8) 5 _ _ _, K7.out.below⟩
      | true =>
      rw [if_pos rfl] at hs
      by_cases hlim : b.length < 1000000
      rotate_left
      · rw [if_neg hlim] at hs
        cases hs
      rw [if_pos hlim] at hs
      have HX := Aside0.mk hs
      have HLIM := Aside0.mk hlim
      clear hs hlim
      obtain ⟨AO, cO, rfl⟩ := Kd.R_slice HO8.out
      have q0 : w9.cell? ⟨g11, 0, none⟩ = some (.int .i64 (rd_T89 l0_5 i).f0) := K8.out.cell 0 rfl 0 rfl
      have q1 : w9.cell? ⟨g11, 1, none⟩ = some (.int .i64 (rd_T89 l0_5 i).f1) := K8.out.cell 0 rfl 1 rfl
      have K9 := Aside0.mk K8.out.tl
      clear K8
      go_wp2_with (first
        | ((with_reducible refine gate_builtin (b := .append) (xs := #[.tmp 87, .tmp 95]) rfl ?_); at_builtin; refine Kd.R_append (Kd.int .u8) (w0 := w) w.heap.size rfl (.tmp 87) (.tmp 95) 24 5 (.int .u8 0) 1 rfl Try.underlying24 info5 rfl (by decide) (by omega) (.slice AO b.length cO) b (wrap64 ((rd_T89 l0_5 i).f0 + wrap64 (16 * (rd_T89 l0_5 i).f1)) % 256) [.int .u8 (wrap64 ((rd_T89 l0_5 i).f0 + wrap64 (16 * (rd_T89 l0_5 i).f1)) % 256)] (fun _ => True) (fun _ => False) rfl rfl ?aP (fun _ hk => hk.elim) ?aF ?aO ?aB ?aS ?aL ?_; (case aP => exact rfl); (case aF => exact fun k hk => trivial); (case aO => exact HO8.out); (case aB => exact K9.out.below); (case aS => exact below_size K9.out.below); (case aL => have := HLIM.out; omega); intro v2 w10 ho hb hg hat; have K10 := Aside0.mk (K9.out.grown2 HO8.out hg hb (by decide) (by decide)); have HO10 := Aside0.mk ho; clear ho hb hg hat q0 q1))
      go_roundg km
      case measure => omega
      case rel => exact ⟨_, _, rfl, HX, K10, HO10⟩
    rw [if_pos hi] at hs
    by_cases hi0 : 0 ≤ i
    rotate_left
    · rw [if_neg hi0] at hs
      cases hs
    rw [if_pos hi0] at hs
    by_cases hlim : b.length < 1000000
    rotate_left
    · rw [if_neg hlim] at hs
      cases hs
    rw [if_pos hlim] at hs
    have HX := Aside0.mk hs
    have HLIM := Aside0.mk hlim
    obtain ⟨ad, e0, hx⟩ := Kd.at_int (Kd.R_reads' HL.out).2.2 i hi0 hi
    have EA := Aside0.mk e0
    have hb0 : decide (i < (L'.length : Int)) = true := decide_eq_true hi
    have p0 : (0 ≤ i) = True := eq_true hi0
    have p1 : (i < (L'.length : Int)) = True := eq_true hi
    clear hs hi hi0 hlim
    obtain ⟨AO, cO, rfl⟩ := Kd.R_slice HO.out
    subst e0
    go_wp2_with (first
      | ((with_reducible refine gate_builtin (b := .append) (xs := #[.tmp 66, .tmp 69]) rfl ?_); at_builtin; refine Kd.R_append (Kd.int .u8) (w0 := w) w.heap.size rfl (.tmp 66) (.tmp 69) 24 5 (.int .u8 0) 1 rfl Try.underlying24 info5 rfl (by decide) (by omega) (.slice AO b.length cO) b (rd L' i % 256) [.int .u8 (rd L' i % 256)] (fun _ => True) (fun _ => False) rfl rfl ?aP (fun _ hk => hk.elim) ?aF ?aO ?aB ?aS ?aL ?_; (case aP => exact rfl); (case aF => exact fun k hk => trivial); (case aO => exact HO.out); (case aB => exact K.out.below); (case aS => exact below_size K.out.below); (case aL => have := HLIM.out; omega); intro v2 w7 ho hb hg hat; have K6 := Aside0.mk (K.out.grown2 HO.out hg hb (by decide) (by decide)); have HL6 := Aside0.mk (Kd.R_over HL.out HO.out (by decide) hg); have HO6 := Aside0.mk ho; clear ho hb hg hat hx))
    go_roundg kj
    case measure => omega
    case rel => exact ⟨_, _, rfl, HX, K6, HL6, HO6⟩
  rw [if_pos hi] at hs
  by_cases hi0 : 0 ≤ i
  rotate_left
  · rw [if_neg hi0] at hs
    cases hs
  rw [if_pos hi0] at hs
  have hix := eight_ix a0_8 a0_9 a0_10 a0_11 a0_12 a0_13 a0_14 a0_15 i hi0 hi wr
  have hb0 : decide (i < 8) = true := decide_eq_true hi
  have hu : IntKind.u64.wrap i = i := by rw [IntKind.wrap_u64]; omega
  have p0 : (0 ≤ i) = True := eq_true hi0
  have p1 : (i < 8) = True := eq_true hi
  clear hi hi0
  generalize bat [a0_8, a0_9, a0_10, a0_11, a0_12, a0_13, a0_14, a0_15] i = bb at *
  cases bb with
  | false =>
    rw [if_neg (by simp)] at hs
    have HX := Aside0.mk hs
    clear hs
    go_wp2
    go_roundg kk
    case measure => omega
    case rel => exact ⟨_, L, rfl, HN, HX, K, HL⟩
  | true =>
  rw [if_pos rfl] at hs
  have HX := Aside0.mk hs
  clear hs
  obtain ⟨hl, hz⟩ := Kd.R_celln (0 : Int) HL.out 7 (by decide) (by decide)
  have hl7 : wr.cell? ⟨gL, 7, none⟩ = some (.int .i64 (rd L 7)) := hl
  have hz7 : wr.frozen? ⟨gL, 7, none⟩ = false := hz
  clear hl hz
  go_wp2
  have hg2 : g2 ≠ gL := fun e => Kd.R_ne HL.out (K.out.get 0 rfl) (by decide) (by rw [e]; rfl)
  have hg1 : g1 ≠ gL := fun e => Kd.R_ne HL.out (K.out.get 1 rfl) (by decide) (by rw [e]; rfl)
  have hgw : w.heap.size ≤ gL := Kd.R_base HL.out gL rfl
  go_roundg kk
  case measure => omega
  case rel => exact ⟨_, _, rfl, ⟨by rw [List.length_set]; exact HN.out⟩, HX, ⟨K.out.far2 (p := ⟨gL, 7, none⟩) hg2 hg1 hgw _⟩, ⟨Kd.R_putn HL.out 7 _⟩⟩
end Go.Proofs.Ytihfopblmjgfaaa.Q

namespace Go.Proofs.Ytihfopblmjgfaaa.Q
open Go.RowKit Go.Proofs.YtihfopblmjgfaaaW.PrintWords Go.Proofs.YtihfopblmjgfaaaW.PrintLast Go.Proofs.YtihfopblmjgfaaaW.PrintMore
attribute [local go_sem] max2_int min2_int max_two min_two max_three min_three max_four min_four   -- for this text's walks alone
set_option linter.unusedVariables false
set_option linter.unusedSimpArgs false

/-! ### waveletref29_in: function 45 -/
def waveletref29_in.f (a0 : Int) (a1 : Int) (a2 : Int) : Option (Bool) := if a1 ≤ a0 then (some (decide (a0 ≤ a2))) else (some false)
set_option maxHeartbeats 8000000 in
set_option maxRecDepth 100000 in
theorem waveletref29_in.calls (a0 : Int) (a1 : Int) (a2 : Int) (r : Bool) (w : World) (h : waveletref29_in.f a0 a1 a2 = some r) :
    Calls Try.prog 45 #[.int .i64 a0, .int .i64 a1, .int .i64 a2] w fun e w' => e = .returned (.bool r) ∧ Drawn0 w w' := by
  have H : (if a1 ≤ a0 then (some (decide (a0 ≤ a2))) else (some false)) = some r := h
  clear h
  by_cases c4 : a1 ≤ a0
  · rw [if_pos c4] at H
    have c4b0 : decide (a1 ≤ a0) = true := decide_eq_true c4
    clear c4
    obtain rfl := Option.some.inj H
    go_enter Try.func45, Try.ntmps45
    go_wp2
    go_ret
    exact ⟨by first | rfl | (simp; done) | (simp [*]; done), by repeat (first | exact Drawn0.refl _ | apply Drawn0.step)⟩
  · rw [if_neg c4] at H
    have c4b0 : decide (a1 ≤ a0) = false := decide_eq_false c4
    clear c4
    obtain rfl := Option.some.inj H
    go_enter Try.func45, Try.ntmps45
    go_wp2
    go_ret
    exact ⟨by first | rfl | (simp; done) | (simp [*]; done), by repeat (first | exact Drawn0.refl _ | apply Drawn0.step)⟩

end Go.Proofs.Ytihfopblmjgfaaa.Q

namespace Go.Proofs.Ytihfopblmjgfaaa.Q
open Go.RowKit Go.Proofs.YtihfopblmjgfaaaW.PrintWords Go.Proofs.YtihfopblmjgfaaaW.PrintLast Go.Proofs.YtihfopblmjgfaaaW.PrintMore
attribute [local go_sem] max2_int min2_int max_two min_two max_three min_three max_four min_four   -- for this text's walks alone
set_option linter.unusedVariables false
set_option linter.unusedSimpArgs false

/-! ### waveletref29_put: function 46 -/
def waveletref29_put.l0 : Nat → List Int → Int → Int → Option (List Int)
  | 0, _, _, _ => none
  | k + 1, x0, x1, x7 => if x7 ≥ 0 then (if 0 ≤ (wrap64 (8 * x7)) then (if x0.length < 140737488355328 then (waveletref29_put.l0 k (x0 ++ [(shr .i64 x1 (wrap64 (8 * x7))) % 256]) x1 (wrap64 (x7 - 1))) else (none)) else (none)) else (some x0)
def waveletref29_put.f (k : Nat) (l0 : List Int) (a1 : Int) (a2 : Int) : Option (List Int) := waveletref29_put.l0 k l0 a1 (wrap64 (a2 - 1))
theorem waveletref29_put.mono_l : ∀ k, (∀ y0 y1 y2, LeO (waveletref29_put.l0 k y0 y1 y2) (waveletref29_put.l0 (k + 1) y0 y1 y2))
  | 0 => fun _ _ _ r h => by simp [waveletref29_put.l0] at h
  | k + 1 => by
    have ih0 := waveletref29_put.mono_l k
    · intro y0 y1 y2
      unfold waveletref29_put.l0
      repeat' first
      | (with_reducible exact ih0 _ _ _)
      | (with_reducible exact LeO.refl _)
      | (with_reducible exact LeO.none _)
      | (with_reducible refine LeO.ite ?_ ?_)
      | (with_reducible refine LeO.bind ?_ (fun _ => ?_))
      | exact ih0 _ _ _
      | exact LeO.none _
      | refine LeO.ite ?_ ?_
      | refine LeO.bind ?_ (fun _ => ?_)
theorem waveletref29_put.mono : ∀ a0 a1 a2 k, LeO (waveletref29_put.f k a0 a1 a2) (waveletref29_put.f (k + 1) a0 a1 a2) := by
  intro a0 a1 a2 k
  have ih0 := waveletref29_put.mono_l k
  unfold waveletref29_put.f
  repeat' first
      | (with_reducible exact ih0 _ _ _)
      | (with_reducible exact LeO.refl _)
      | (with_reducible exact LeO.none _)
      | (with_reducible refine LeO.ite ?_ ?_)
      | (with_reducible refine LeO.bind ?_ (fun _ => ?_))
      | exact ih0 _ _ _
      | exact LeO.none _
      | refine LeO.ite ?_ ?_
      | refine LeO.bind ?_ (fun _ => ?_)
set_option maxHeartbeats 8000000 in
set_option maxRecDepth 100000 in
theorem waveletref29_put.calls (k : Nat) (P0_ : Nat → Prop) (u9000_ : Value) (l0 : List Int) (a1 : Int) (a2 : Int) (r : List Int) (w0 w : World) (hB : Below w0.heap.size w0 w) (ho0 : Kd.R (Kd.int .u8) 5 w w0.heap.size P0_ u9000_ l0) (h : waveletref29_put.f k l0 a1 a2 = some r) :
    Calls Try.prog 46 #[u9000_, .int .i64 a1, .int .i64 a2] w fun e w' => ∃ v0_ : Value, e = .returned (v0_) ∧ Kd.R (Kd.int .u8) 5 w' w0.heap.size (fun k_ => (P0_ k_ ∨ w.heap.size ≤ k_)) v0_ r ∧ Below w0.heap.size w0 w' ∧ Kept w w' (fun k_ => P0_ k_) := by
  have HO0 := Aside0.mk (show Kd.R (Kd.int .u8) 5 w w0.heap.size (fun k_ => (P0_ k_ ∨ w.heap.size ≤ k_)) u9000_ l0 from Kd.R_mono ho0 (fun k_ hk => (.inl hk)))
  have HK := Aside0.mk (Kept.refl w (fun k_ => P0_ k_))
  have HW0 := Aside0.mk hB.size
  have HB := Aside0.mk hB
  clear hB
  have H : (waveletref29_put.l0 k l0 a1 (wrap64 (a2 - 1))) = some r := h
  clear h
  have H' := Aside0.mk H
  clear H
  go_enter Try.func46, Try.ntmps46
  go_wp2
  go_loopg [0, 7] k (fun kq v0 v7 w' => ∃ (x0_1 : List Int) (x7_1 : Int), v7 = .int .i64 x7_1 ∧ Aside0 (waveletref29_put.l0 kq x0_1 a1 x7_1 = some r) ∧ Aside0 (kq ≤ k) ∧ Aside0 (Kd.R (Kd.int .u8) 5 w' w0.heap.size (fun k_ => (P0_ k_ ∨ w.heap.size ≤ k_)) v0 x0_1) ∧ Aside0 (Kept w w' (fun k_ => P0_ k_)) ∧ Aside0 (Below w0.heap.size w0 w'))
  case atStart => exact ⟨(l0), (wrap64 (a2 - 1)), (by first | rfl | (simp; done) | (simp [*]; done)), H', ⟨Nat.le_refl _⟩, ⟨by (with_reducible repeat (first | apply Kd.R_alloc | apply Kd.R_drewN | apply Kd.R_drew)); exact HO0.out⟩, ⟨by repeat (first | (with_reducible first | exact HK.out | apply Kept.alloc | apply Kept.drewN | apply Kept.drew) | exact HK.out)⟩, ⟨by repeat (first | (with_reducible first | exact HB.out | apply below_alloc | apply pw_below_drewN | apply below_drew1) | exact HB.out)⟩⟩
  case round =>
    clear H'
    try clear p2
    obtain ⟨x0_1, x7_1, rfl, HA, HK1, HO_0, HK, HB⟩ := hrel
    cases gk with
    | zero => exact absurd HA.out (by simp [waveletref29_put.l0])
    | succ k1 =>
      have H := HA.out
      clear HA
      simp only [waveletref29_put.l0] at H
      by_cases c4 : x7_1 ≥ 0
      · rw [if_pos c4] at H
        have c4b0 : decide (0 ≤ x7_1) = true := decide_eq_true c4
        clear c4
        obtain ⟨ji5, hji5⟩ : ∃ j_ : Int, (wrap64 (8 * x7_1)) = j_ := ⟨_, rfl⟩
        replace H : (if 0 ≤ (ji5) then (if x0_1.length < 140737488355328 then (waveletref29_put.l0 k1 (x0_1 ++ [(shr .i64 a1 (ji5)) % 256]) a1 (wrap64 (x7_1 - 1))) else (none)) else (none)) = some r := by first | (rw [hji5] at H; exact H) | (simp only [hji5] at H ⊢; exact H)
        have hji5w : (IntKind.i64.wrap (8 * x7_1)) = ji5 := (i64_w _).trans hji5
        by_cases c6 : 0 ≤ (ji5)
        · rw [if_pos c6] at H
          have c6b0 := eq_true c6
          have c6b1 : decide (0 ≤ (ji5)) = true := decide_eq_true c6
          clear c6
          obtain ⟨ji7, hji7⟩ : ∃ j_ : Int, (shr .i64 a1 (ji5)) = j_ := ⟨_, rfl⟩
          replace H : (if x0_1.length < 140737488355328 then (waveletref29_put.l0 k1 (x0_1 ++ [(ji7) % 256]) a1 (wrap64 (x7_1 - 1))) else (none)) = some r := by first | (rw [hji7] at H; exact H) | (simp only [hji7] at H ⊢; exact H)
          have hji7_ : (a1 / 2 ^ min (ji5).toNat 64) = ji7 := hji7
          have hji7z : (ji5) ≤ 64 → (a1 / 2 ^ (ji5).toNat) = ji7 := shr_small hji7
          by_cases c8 : x0_1.length < 140737488355328
          · rw [if_pos c8] at H
            have LMc8 := Aside0.mk c8
            clear c8
            obtain ⟨y217, hy217⟩ : ∃ y_ : List Int, y_ = (x0_1 ++ [(ji7) % 256]) := ⟨_, rfl⟩
            replace H : (waveletref29_put.l0 k1 y217 a1 (wrap64 (x7_1 - 1))) = some r := by first | (rw [hy217]; with_reducible exact H) | (have H2_ := (Option.bind_some _ _).symm.trans H; rw [hy217]; with_reducible exact H2_) | (have H2_ := (Option.bind_some _ _).symm.trans H; with_reducible exact H2_) | with_reducible exact H | (rw [hy217]; exact H) | exact H
            have Ny217 := Aside0.mk hy217
            clear hy217
            have H' := Aside0.mk H
            clear H
            go_wp2_with (first | ((with_reducible refine gate_builtin (b := .append) (xs := #[.tmp 14, .tmp 20]) rfl ?_); at_builtin; refine Kd.R_append (Kd.int .u8) (w0 := w0) w0.heap.size rfl (.tmp 14) (.tmp 20) 24 5 (.int .u8 0) 1 rfl Try.underlying24 info5 rfl (by decide) (by omega) u0 x0_1 ((ji7) % 256) [.int .u8 ((ji7) % 256)] (fun k_ => (P0_ k_ ∨ w.heap.size ≤ k_)) (fun _ => False) rfl rfl ?aP (fun _ hk => hk.elim) ?aF ?aO ?aB ?aS ?aL ?_; (case aP => exact rfl); (case aB => exact (by repeat (first | (with_reducible first | exact HB.out | apply below_alloc | apply pw_below_drewN | apply below_drew1) | exact HB.out))); (case aF => exact (fun k_ hk => (.inr (Nat.le_trans (by first | exact HK.out.1 | exact (show Kept w _ (fun k_ => P0_ k_) from by repeat (first | (with_reducible first | exact HK.out | apply Kept.alloc | apply Kept.drewN | apply Kept.drew) | exact HK.out)).1) hk)))); (case aO => exact (by (with_reducible repeat (first | apply Kd.R_alloc | apply Kd.R_drewN | apply Kd.R_drew)); exact HO_0.out)); (case aS => exact (below_size (by repeat (first | (with_reducible first | exact HB.out | apply below_alloc | apply pw_below_drewN | apply below_drew1) | exact HB.out)))); (case aL => have := LMc8.out; omega); intro v218 w9 ho hb hg hat; rw [← Ny217.out] at ho; have n0_ := Aside0.mk (hb); have n1_ := Aside0.mk (Kept.of_grown (S := (fun k_ => P0_ k_)) hg (by repeat (first | (with_reducible first | exact HK.out | apply Kept.alloc | apply Kept.drewN | apply Kept.drew) | exact HK.out)) (fun k_ e_ => (HO_0.out.1 k_ e_))); have n2_ := Aside0.mk (ho); clear HB; clear HK; clear HO_0; have HB := n0_; have HK := n1_; have HO219 := n2_; clear n0_ n1_ n2_; clear ho hb hg hat))
            go_roundg k1
            case measure => have := HK1.out; omega
            case rel => exact ⟨(y217), (wrap64 (x7_1 - 1)), (by first | rfl | (simp; done) | (simp [*]; done)), H', ⟨by have := HK1.out; omega⟩, ⟨by (with_reducible repeat (first | apply Kd.R_alloc | apply Kd.R_drewN | apply Kd.R_drew)); exact HO219.out⟩, ⟨by repeat (first | (with_reducible first | exact HK.out | apply Kept.alloc | apply Kept.drewN | apply Kept.drew) | exact HK.out)⟩, ⟨by repeat (first | (with_reducible first | exact HB.out | apply below_alloc | apply pw_below_drewN | apply below_drew1) | exact HB.out)⟩⟩
          · rw [if_neg c8] at H
            exact absurd H (by simp)
        · rw [if_neg c6] at H
          exact absurd H (by simp)
      · rw [if_neg c4] at H
        have c4b0 : decide (0 ≤ x7_1) = false := decide_eq_false c4
        clear c4
        obtain rfl := Option.some.inj H
        go_wp2
        go_ret
        exact ⟨_, by first | rfl | (simp [errW_none, errW_some] <;> rfl) | (simp [*, errW_none, errW_some] <;> rfl), by (with_reducible repeat (first | apply Kd.R_alloc | apply Kd.R_drewN | apply Kd.R_drew)); exact HO_0.out, by repeat (first | (with_reducible first | exact HB.out | apply below_alloc | apply pw_below_drewN | apply below_drew1) | exact HB.out), by repeat (first | (with_reducible first | exact HK.out | apply Kept.alloc | apply Kept.drewN | apply Kept.drew) | exact HK.out)⟩

end Go.Proofs.Ytihfopblmjgfaaa.Q

namespace Go.Proofs.Ytihfopblmjgfaaa.Q
open Go.RowKit Go.Proofs.YtihfopblmjgfaaaW.PrintWords Go.Proofs.YtihfopblmjgfaaaW.PrintLast Go.Proofs.YtihfopblmjgfaaaW.PrintMore
attribute [local go_sem] max2_int min2_int max_two min_two max_three min_three max_four min_four   -- for this text's walks alone
set_option linter.unusedVariables false
set_option linter.unusedSimpArgs false

/-! ### waveletref29_flags: function 57 -/
def waveletref29_flags.l0 : Nat → List Bool → Int → Int → Option (Int)
  | 0, _, _, _ => none
  | k + 1, x3, x4, x5 => if x5 < (x3.length : Int) then (if 0 ≤ x5 then (if rdOf false x3 x5 = true then (waveletref29_flags.l0 k x3 (wrap64 (x4 + (shl .i64 1 x5))) (wrap64 (x5 + 1))) else (waveletref29_flags.l0 k x3 x4 (wrap64 (x5 + 1)))) else (none)) else (some x4)
def waveletref29_flags.f (k : Nat) (a0_0 : Int) (a0_1 : Int) (a0_2 : Int) (a0_3 : Int) (a0_4 : Int) (l0_5 : List (S89)) (a0_6 : Int) (a0_7 : Int) (a0_8 : Bool) (a0_9 : Bool) (a0_10 : Bool) (a0_11 : Bool) (a0_12 : Bool) (a0_13 : Bool) (a0_14 : Bool) (a0_15 : Bool) (l0_16 : List Int) (a0_17 : Int) (a0_18 : Int) : Option (Int) := waveletref29_flags.l0 k (([a0_8, a0_9, a0_10, a0_11, a0_12, a0_13, a0_14, a0_15] : List Bool)) 0 0
theorem waveletref29_flags.mono_l : ∀ k, (∀ y0 y1 y2, LeO (waveletref29_flags.l0 k y0 y1 y2) (waveletref29_flags.l0 (k + 1) y0 y1 y2))
  | 0 => fun _ _ _ r h => by simp [waveletref29_flags.l0] at h
  | k + 1 => by
    have ih0 := waveletref29_flags.mono_l k
    · intro y0 y1 y2
      unfold waveletref29_flags.l0
      repeat' first
      | (with_reducible exact ih0 _ _ _)
      | (with_reducible exact LeO.refl _)
      | (with_reducible exact LeO.none _)
      | (with_reducible refine LeO.ite ?_ ?_)
      | (with_reducible refine LeO.bind ?_ (fun _ => ?_))
      | exact ih0 _ _ _
      | exact LeO.none _
      | refine LeO.ite ?_ ?_
      | refine LeO.bind ?_ (fun _ => ?_)
theorem waveletref29_flags.mono : ∀ a0 a1 a2 a3 a4 a5 a6 a7 a8 a9 a10 a11 a12 a13 a14 a15 a16 a17 a18 k, LeO (waveletref29_flags.f k a0 a1 a2 a3 a4 a5 a6 a7 a8 a9 a10 a11 a12 a13 a14 a15 a16 a17 a18) (waveletref29_flags.f (k + 1) a0 a1 a2 a3 a4 a5 a6 a7 a8 a9 a10 a11 a12 a13 a14 a15 a16 a17 a18) := by
  intro a0 a1 a2 a3 a4 a5 a6 a7 a8 a9 a10 a11 a12 a13 a14 a15 a16 a17 a18 k
  have ih0 := waveletref29_flags.mono_l k
  unfold waveletref29_flags.f
  repeat' first
      | (with_reducible exact ih0 _ _ _)
      | (with_reducible exact LeO.refl _)
      | (with_reducible exact LeO.none _)
      | (with_reducible refine LeO.ite ?_ ?_)
      | (with_reducible refine LeO.bind ?_ (fun _ => ?_))
      | exact ih0 _ _ _
      | exact LeO.none _
      | refine LeO.ite ?_ ?_
      | refine LeO.bind ?_ (fun _ => ?_)
set_option maxHeartbeats 8000000 in
set_option maxRecDepth 100000 in
theorem waveletref29_flags.calls (k : Nat) (a0_0 : Int) (a0_1 : Int) (a0_2 : Int) (a0_3 : Int) (a0_4 : Int) (A0_5 : Option Addr) (c0_5 : Nat) (l0_5 : List (S89)) (a0_6 : Int) (a0_7 : Int) (a0_8 : Bool) (a0_9 : Bool) (a0_10 : Bool) (a0_11 : Bool) (a0_12 : Bool) (a0_13 : Bool) (a0_14 : Bool) (a0_15 : Bool) (A0_16 : Option Addr) (c0_16 : Nat) (l0_16 : List Int) (a0_17 : Int) (a0_18 : Int) (r : Int) (w : World) (hr0_5 : Kd.C k89 w A0_5 l0_5.length l0_5) (hc0_5 : l0_5.length ≤ c0_5) (hr0_16 : Kd.C (Kd.int .i64) w A0_16 l0_16.length l0_16) (hc0_16 : l0_16.length ≤ c0_16) (h : waveletref29_flags.f k a0_0 a0_1 a0_2 a0_3 a0_4 l0_5 a0_6 a0_7 a0_8 a0_9 a0_10 a0_11 a0_12 a0_13 a0_14 a0_15 l0_16 a0_17 a0_18 = some r) :
    Calls Try.prog 57 #[.agg #[.int .i64 a0_0, .int .i64 a0_1, .int .i64 a0_2, .int .i64 a0_3, .int .i64 a0_4, .slice A0_5 l0_5.length c0_5, .int .i64 a0_6, .int .i64 a0_7, .bool a0_8, .bool a0_9, .bool a0_10, .bool a0_11, .bool a0_12, .bool a0_13, .bool a0_14, .bool a0_15, .slice A0_16 l0_16.length c0_16, .int .i64 a0_17, .int .i64 a0_18]] w fun e w' => e = .returned (.int .i64 r) ∧ Below w.heap.size w w' := by
  have hu55 := Try.underlying55
  have HR0_5 := Aside0.mk hr0_5
  have HC0_5 := Aside0.mk hc0_5
  clear hr0_5 hc0_5
  have HR0_16 := Aside0.mk hr0_16
  have HC0_16 := Aside0.mk hc0_16
  clear hr0_16 hc0_16
  have HB := Aside0.mk (Below.refl w.heap.size w)
  have H : (waveletref29_flags.l0 k (([a0_8, a0_9, a0_10, a0_11, a0_12, a0_13, a0_14, a0_15] : List Bool)) 0 0) = some r := h
  clear h
  obtain ⟨y590, hy590⟩ : ∃ y_ : List Bool, y_ = (([a0_8, a0_9, a0_10, a0_11, a0_12, a0_13, a0_14, a0_15] : List Bool)) := ⟨_, rfl⟩
  replace H : (waveletref29_flags.l0 k y590 0 0) = some r := by first | (rw [hy590]; with_reducible exact H) | (have H2_ := (Option.bind_some _ _).symm.trans H; rw [hy590]; with_reducible exact H2_) | (have H2_ := (Option.bind_some _ _).symm.trans H; with_reducible exact H2_) | with_reducible exact H | (rw [hy590]; exact H) | exact H
  have Ny590 := Aside0.mk hy590
  clear hy590
  have H' := Aside0.mk H
  clear H
  go_enter Try.func57, Try.ntmps57
  go_wp2_with (first | ((with_reducible refine gate_dst (N := 1) rfl ?_); refine box_event ?hg (N := 1) ?hd (cs := #[.int .i64 a0_0, .int .i64 a0_1, .int .i64 a0_2, .int .i64 a0_3, .int .i64 a0_4, .slice A0_5 l0_5.length c0_5, .int .i64 a0_6, .int .i64 a0_7, .bool a0_8, .bool a0_9, .bool a0_10, .bool a0_11, .bool a0_12, .bool a0_13, .bool a0_14, .bool a0_15, .slice A0_16 l0_16.length c0_16, .int .i64 a0_17, .int .i64 a0_18]) (t := 55) ?hr ?_; (case hd => rfl); (case hg => rfl); (case hr => first | (go_simp; done) | (go_simp; rfl)); intro gb589 hg w2 hbox hb; have n0_ := Aside0.mk (below_step (by repeat (first | (with_reducible first | exact HB.out | apply below_alloc | apply pw_below_drewN | apply below_drew1) | exact HB.out)) hb); have n1_ := Aside0.mk (hbox); have n2_ := Aside0.mk ((by rw [hg]; exact (below_size (by repeat (first | (with_reducible first | exact HB.out | apply below_alloc | apply pw_below_drewN | apply below_drew1) | exact HB.out))) : w.heap.size ≤ gb589)); have n3_ := Aside0.mk ((by rw [hg]; exact (below_size (by repeat (first | (with_reducible first | exact HB.out | apply below_alloc | apply pw_below_drewN | apply below_drew1) | exact HB.out))) : w.heap.size ≤ gb589)); clear HB; have HB := n0_; have BK589 := n1_; have GW589 := n2_; have GE589 := n3_; clear n0_ n1_ n2_ n3_; clear hb hbox hg; have hcz3_0 : w2.cell? ⟨gb589, 0, none⟩ = some (.int .i64 a0_0) := (blk_cell BK589.out 0).trans rfl; have hcz3_1 : w2.cell? ⟨gb589, 1, none⟩ = some (.int .i64 a0_1) := (blk_cell BK589.out 1).trans rfl; have hcz3_2 : w2.cell? ⟨gb589, 2, none⟩ = some (.int .i64 a0_2) := (blk_cell BK589.out 2).trans rfl; have hcz3_3 : w2.cell? ⟨gb589, 3, none⟩ = some (.int .i64 a0_3) := (blk_cell BK589.out 3).trans rfl; have hcz3_4 : w2.cell? ⟨gb589, 4, none⟩ = some (.int .i64 a0_4) := (blk_cell BK589.out 4).trans rfl; have hcz3_5 : w2.cell? ⟨gb589, 5, none⟩ = some (.slice A0_5 l0_5.length c0_5) := (blk_cell BK589.out 5).trans rfl; have hcz3_6 : w2.cell? ⟨gb589, 6, none⟩ = some (.int .i64 a0_6) := (blk_cell BK589.out 6).trans rfl; have hcz3_7 : w2.cell? ⟨gb589, 7, none⟩ = some (.int .i64 a0_7) := (blk_cell BK589.out 7).trans rfl; have hcz3_8 : w2.cell? ⟨gb589, 8, none⟩ = some (.bool a0_8) := (blk_cell BK589.out 8).trans rfl; have hcz3_9 : w2.cell? ⟨gb589, 9, none⟩ = some (.bool a0_9) := (blk_cell BK589.out 9).trans rfl; have hcz3_10 : w2.cell? ⟨gb589, 10, none⟩ = some (.bool a0_10) := (blk_cell BK589.out 10).trans rfl; have hcz3_11 : w2.cell? ⟨gb589, 11, none⟩ = some (.bool a0_11) := (blk_cell BK589.out 11).trans rfl; have hcz3_12 : w2.cell? ⟨gb589, 12, none⟩ = some (.bool a0_12) := (blk_cell BK589.out 12).trans rfl; have hcz3_13 : w2.cell? ⟨gb589, 13, none⟩ = some (.bool a0_13) := (blk_cell BK589.out 13).trans rfl; have hcz3_14 : w2.cell? ⟨gb589, 14, none⟩ = some (.bool a0_14) := (blk_cell BK589.out 14).trans rfl; have hcz3_15 : w2.cell? ⟨gb589, 15, none⟩ = some (.bool a0_15) := (blk_cell BK589.out 15).trans rfl; have hcz3_16 : w2.cell? ⟨gb589, 16, none⟩ = some (.slice A0_16 l0_16.length c0_16) := (blk_cell BK589.out 16).trans rfl; have hcz3_17 : w2.cell? ⟨gb589, 17, none⟩ = some (.int .i64 a0_17) := (blk_cell BK589.out 17).trans rfl; have hcz3_18 : w2.cell? ⟨gb589, 18, none⟩ = some (.int .i64 a0_18) := (blk_cell BK589.out 18).trans rfl; have hfz3_0 := blk_frozen BK589.out 0; have hfz3_1 := blk_frozen BK589.out 1; have hfz3_2 := blk_frozen BK589.out 2; have hfz3_3 := blk_frozen BK589.out 3; have hfz3_4 := blk_frozen BK589.out 4; have hfz3_5 := blk_frozen BK589.out 5; have hfz3_6 := blk_frozen BK589.out 6; have hfz3_7 := blk_frozen BK589.out 7; have hfz3_8 := blk_frozen BK589.out 8; have hfz3_9 := blk_frozen BK589.out 9; have hfz3_10 := blk_frozen BK589.out 10; have hfz3_11 := blk_frozen BK589.out 11; have hfz3_12 := blk_frozen BK589.out 12; have hfz3_13 := blk_frozen BK589.out 13; have hfz3_14 := blk_frozen BK589.out 14; have hfz3_15 := blk_frozen BK589.out 15; have hfz3_16 := blk_frozen BK589.out 16; have hfz3_17 := blk_frozen BK589.out 17; have hfz3_18 := blk_frozen BK589.out 18) | ((with_reducible refine gate_dst (N := 27) rfl ?_); refine Kd.R_lit Kd.bool _ 4 ?hg (N := 27) ?hd (xs := ([a0_8, a0_9, a0_10, a0_11, a0_12, a0_13, a0_14, a0_15] : List Bool)) (inner := [.bool a0_8, .bool a0_9, .bool a0_10, .bool a0_11, .bool a0_12, .bool a0_13, .bool a0_14, .bool a0_15]) (ok := fun _ => True) (okp := fun _ => True) ?hr ?hp (fun _ hk => hk) trivial (Below.refl _ _) (Nat.le_refl _) (by simp) ?_; (case hd => rfl); (case hg => rfl); (case hr => first | (go_simp; done) | (go_simp; rfl)); (case hp => exact (Reps.one (show Kd.M Kd.bool _ _ _ a0_8 [.bool a0_8] from rfl) (Reps.one (show Kd.M Kd.bool _ _ _ a0_9 [.bool a0_9] from rfl) (Reps.one (show Kd.M Kd.bool _ _ _ a0_10 [.bool a0_10] from rfl) (Reps.one (show Kd.M Kd.bool _ _ _ a0_11 [.bool a0_11] from rfl) (Reps.one (show Kd.M Kd.bool _ _ _ a0_12 [.bool a0_12] from rfl) (Reps.one (show Kd.M Kd.bool _ _ _ a0_13 [.bool a0_13] from rfl) (Reps.one (show Kd.M Kd.bool _ _ _ a0_14 [.bool a0_14] from rfl) (Reps.one (show Kd.M Kd.bool _ _ _ a0_15 [.bool a0_15] from rfl) (Reps.none _ _)))))))))); intro v591 w4 ho5 hb hg_ hnew_; clear hg_ hnew_; (first | rw [← Ny590.out] at ho5 | (simp only [Int.reduceToNat] at ho5; rw [← Ny590.out] at ho5)); have n0_ := Aside0.mk (Kd.R_lower ho5 (below_size (by repeat (first | (with_reducible first | exact HB.out | apply below_alloc | apply pw_below_drewN | apply below_drew1 | refine below_set ?_ GE589.out) | exact HB.out)))); have n1_ := Aside0.mk (blk_below (g := gb589) (o := .cells #[.int .i64 a0_0, .int .i64 a0_1, .int .i64 a0_2, .int .i64 a0_3, .int .i64 a0_4, .slice A0_5 l0_5.length c0_5, .int .i64 a0_6, .int .i64 a0_7, .bool a0_8, .bool a0_9, .bool a0_10, .bool a0_11, .bool a0_12, .bool a0_13, .bool a0_14, .bool a0_15, .slice A0_16 l0_16.length c0_16, .int .i64 a0_17, .int .i64 a0_18] 55 (0, 0)) (by (with_reducible repeat (first | refine blk_drewN ?_ _ | refine blk_drew ?_ | refine blk_alloc ?_ _)); exact BK589.out) hb); have n2_ := Aside0.mk (below_step (by repeat (first | (with_reducible first | exact HB.out | apply below_alloc | apply pw_below_drewN | apply below_drew1 | refine below_set ?_ GE589.out) | exact HB.out)) hb); clear BK589; clear HB; have HO592 := n0_; have BK589 := n1_; have HB := n2_; clear n0_ n1_ n2_; clear hb ho5))
  go_loopg [4, 5] k (fun kq v4 v5 w' => ∃ (x4_1 : Int) (x5_1 : Int), v4 = .int .i64 x4_1 ∧ v5 = .int .i64 x5_1 ∧ Aside0 (waveletref29_flags.l0 kq y590 x4_1 x5_1 = some r) ∧ Aside0 (kq ≤ k) ∧ Aside0 (Kd.R Kd.bool 4 w' w.heap.size (fun _ => True) v591 y590) ∧ Aside0 (w'.heap[gb589]? = some (.cells #[.int .i64 a0_0, .int .i64 a0_1, .int .i64 a0_2, .int .i64 a0_3, .int .i64 a0_4, (.slice A0_5 l0_5.length c0_5), .int .i64 a0_6, .int .i64 a0_7, .bool a0_8, .bool a0_9, .bool a0_10, .bool a0_11, .bool a0_12, .bool a0_13, .bool a0_14, .bool a0_15, (.slice A0_16 l0_16.length c0_16), .int .i64 a0_17, .int .i64 a0_18] 55 (0, 0))) ∧ Aside0 (Below w.heap.size w w'))
  case atStart => exact ⟨(0), (0), (by first | rfl | (simp; done) | (simp [*]; done)), (by first | rfl | (simp; done) | (simp [*]; done)), H', ⟨Nat.le_refl _⟩, ⟨by (with_reducible repeat (first | apply Kd.R_alloc | apply Kd.R_drewN | apply Kd.R_drew)); exact HO592.out⟩, ⟨by (with_reducible repeat (first | refine blk_drewN ?_ _ | refine blk_drew ?_ | refine blk_alloc ?_ _)); exact BK589.out⟩, ⟨by repeat (first | (with_reducible first | exact HB.out | apply below_alloc | apply pw_below_drewN | apply below_drew1 | refine below_set ?_ GE589.out) | exact HB.out)⟩⟩
  case round =>
    clear H'
    try clear p2
    try clear c5
    try clear hcz3_0
    try clear hcz3_1
    try clear hcz3_10
    try clear hcz3_11
    try clear hcz3_12
    try clear hcz3_13
    try clear hcz3_14
    try clear hcz3_15
    try clear hcz3_16
    try clear hcz3_17
    try clear hcz3_18
    try clear hcz3_2
    try clear hcz3_3
    try clear hcz3_4
    try clear hcz3_5
    try clear hcz3_6
    try clear hcz3_7
    try clear hcz3_8
    try clear hcz3_9
    try clear hfz3_0
    try clear hfz3_1
    try clear hfz3_10
    try clear hfz3_11
    try clear hfz3_12
    try clear hfz3_13
    try clear hfz3_14
    try clear hfz3_15
    try clear hfz3_16
    try clear hfz3_17
    try clear hfz3_18
    try clear hfz3_2
    try clear hfz3_3
    try clear hfz3_4
    try clear hfz3_5
    try clear hfz3_6
    try clear hfz3_7
    try clear hfz3_8
    try clear hfz3_9
    obtain ⟨x4_1, x5_1, rfl, rfl, HA, HK1, HO_3, BK589, HB⟩ := hrel
    cases gk with
    | zero => exact absurd HA.out (by simp [waveletref29_flags.l0])
    | succ k1 =>
      have H := HA.out
      clear HA
      simp only [waveletref29_flags.l0] at H
      by_cases c6 : x5_1 < (y590.length : Int)
      · rw [if_pos c6] at H
        have c6b0 : decide (x5_1 < (y590.length : Int)) = true := decide_eq_true c6
        clear c6
        by_cases c7 : 0 ≤ x5_1
        · rw [if_pos c7] at H
          have c7b0 : decide (0 ≤ x5_1) = true := decide_eq_true c7
          clear c7
          obtain ⟨bq8, hbq8⟩ : ∃ b_ : Bool, b_ = (rdOf false y590 x5_1) := ⟨_, rfl⟩
          replace H : (if bq8 = true then (waveletref29_flags.l0 k1 y590 (wrap64 (x4_1 + (shl .i64 1 x5_1))) (wrap64 (x5_1 + 1))) else (waveletref29_flags.l0 k1 y590 x4_1 (wrap64 (x5_1 + 1)))) = some r := by rw [← hbq8] at H; exact H
          have Nbq8 := Aside0.mk hbq8
          clear hbq8
          by_cases c9 : bq8 = true
          · subst c9
            have H1 : (waveletref29_flags.l0 k1 y590 (wrap64 (x4_1 + (shl .i64 1 x5_1))) (wrap64 (x5_1 + 1))) = some r := by rw [if_pos rfl] at H; exact H
            clear H
            have H := H1
            clear H1
            have c10b0 := eq_true (of_decide_eq_true (by first | (with_reducible assumption) | assumption) : 0 ≤ x5_1)
            obtain ⟨ji11, hji11⟩ : ∃ j_ : Int, (shl .i64 1 x5_1) = j_ := ⟨_, rfl⟩
            replace H : (waveletref29_flags.l0 k1 y590 (wrap64 (x4_1 + (ji11))) (wrap64 (x5_1 + 1))) = some r := by first | (rw [hji11] at H; exact H) | (simp only [hji11] at H ⊢; exact H)
            have hji11_ : (IntKind.i64.wrap (1 * 2 ^ min x5_1.toNat 64)) = ji11 := hji11
            have hji11z : x5_1 ≤ 64 → (IntKind.i64.wrap (1 * 2 ^ x5_1.toNat)) = ji11 := shl_small hji11
            have hji11u : (IntKind.i64.wrap (2 ^ min x5_1.toNat 64)) = ji11 := by have h_ := hji11_; rw [Int.one_mul] at h_; exact h_
            have hji11v : x5_1 ≤ 64 → (IntKind.i64.wrap (2 ^ x5_1.toNat)) = ji11 := fun hle_ => by have h_ := hji11z hle_; rw [Int.one_mul] at h_; exact h_
            have hji11y : (wrap64 (1 * 2 ^ min x5_1.toNat 64)) = ji11 := (i64_w _).symm.trans hji11_
            have hji11x : x5_1 ≤ 64 → (wrap64 (1 * 2 ^ x5_1.toNat)) = ji11 := fun h_ => (i64_w _).symm.trans (hji11z h_)
            have H' := Aside0.mk H
            clear H
            obtain ⟨Ao12, co12, eo12⟩ := Kd.R_slice HO_3.out
            subst eo12
            have p593 : 0 ≤ (x5_1 : Int) := of_decide_eq_true (by first | (with_reducible assumption) | assumption)
            have q593 : x5_1 < (y590.length : Int) := of_decide_eq_true (by first | (with_reducible assumption) | assumption)
            obtain ⟨ad593, e593, hx593_0⟩ := Kd.at_bool (Kd.R_reads' HO_3.out).2.2 x5_1 p593 q593
            (try rw [← Nbq8.out] at hx593_0)
            cases e593
            replace p593 := eq_true p593
            replace q593 := eq_true q593
            go_wp2
            go_roundg k1
            case measure => have := HK1.out; omega
            case rel => exact ⟨(wrap64 (x4_1 + (ji11))), (wrap64 (x5_1 + 1)), (by first | rfl | (simp; done) | (simp only [← hji11] <;> (first | rfl | simp)) | (simp [*]; done)), (by first | rfl | (simp; done) | (simp [*]; done)), H', ⟨by have := HK1.out; omega⟩, ⟨by (with_reducible repeat (first | apply Kd.R_alloc | apply Kd.R_drewN | apply Kd.R_drew)); exact HO_3.out⟩, ⟨by (with_reducible repeat (first | refine blk_drewN ?_ _ | refine blk_drew ?_ | refine blk_alloc ?_ _)); exact BK589.out⟩, ⟨by repeat (first | (with_reducible first | exact HB.out | apply below_alloc | apply pw_below_drewN | apply below_drew1 | refine below_set ?_ GE589.out) | exact HB.out)⟩⟩
          · replace c9 := Bool.eq_false_iff.mpr c9
            subst c9
            have H1 : (waveletref29_flags.l0 k1 y590 x4_1 (wrap64 (x5_1 + 1))) = some r := by rw [if_neg (show ¬ (false = true) by decide)] at H; exact H
            clear H
            have H := H1
            clear H1
            have H' := Aside0.mk H
            clear H
            obtain ⟨Ao13, co13, eo13⟩ := Kd.R_slice HO_3.out
            subst eo13
            have p593 : 0 ≤ (x5_1 : Int) := of_decide_eq_true (by first | (with_reducible assumption) | assumption)
            have q593 : x5_1 < (y590.length : Int) := of_decide_eq_true (by first | (with_reducible assumption) | assumption)
            obtain ⟨ad593, e593, hx593_0⟩ := Kd.at_bool (Kd.R_reads' HO_3.out).2.2 x5_1 p593 q593
            (try rw [← Nbq8.out] at hx593_0)
            cases e593
            replace p593 := eq_true p593
            replace q593 := eq_true q593
            go_wp2
            go_roundg k1
            case measure => have := HK1.out; omega
            case rel => exact ⟨(x4_1), (wrap64 (x5_1 + 1)), (by first | rfl | (simp; done) | (simp [*]; done)), (by first | rfl | (simp; done) | (simp [*]; done)), H', ⟨by have := HK1.out; omega⟩, ⟨by (with_reducible repeat (first | apply Kd.R_alloc | apply Kd.R_drewN | apply Kd.R_drew)); exact HO_3.out⟩, ⟨by (with_reducible repeat (first | refine blk_drewN ?_ _ | refine blk_drew ?_ | refine blk_alloc ?_ _)); exact BK589.out⟩, ⟨by repeat (first | (with_reducible first | exact HB.out | apply below_alloc | apply pw_below_drewN | apply below_drew1 | refine below_set ?_ GE589.out) | exact HB.out)⟩⟩
        · rw [if_neg c7] at H
          exact absurd H (by simp)
      · rw [if_neg c6] at H
        have c6b0 : decide (x5_1 < (y590.length : Int)) = false := decide_eq_false c6
        clear c6
        obtain rfl := Option.some.inj H
        obtain ⟨Ao14, co14, eo14⟩ := Kd.R_slice HO_3.out
        subst eo14
        go_wp2
        go_ret
        exact ⟨by first | rfl | (simp [errW_none, errW_some] <;> rfl) | (simp [*, errW_none, errW_some] <;> rfl), by repeat (first | (with_reducible first | exact HB.out | apply below_alloc | apply pw_below_drewN | apply below_drew1 | refine below_set ?_ GE589.out) | exact HB.out)⟩

end Go.Proofs.Ytihfopblmjgfaaa.Q
