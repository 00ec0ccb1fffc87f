/- Texts of this session (words and printed walks, merged by wip/tools/merge.py) for the statement of the claim. -/
import Derived.Test.YtcnpekpgghppnaaMTr2
import Derived.Laws.CopyOwn
import Derived.Test.YtcnpekpgghppnaaMTr0
import Derived.Test.YtcnpekpgghppnaaMTr1
/- A column is set. Printed by wip/tools of this session. -/
namespace Go.Proofs.Ytcnpekpgghppnaa.Q
open Go.RowKit Go.Proofs.YtcnpekpgghppnaaW.PrintWords Go.Proofs.YtcnpekpgghppnaaW.PrintLast Go.Proofs.YtcnpekpgghppnaaW.PrintMore
set_option linter.unusedVariables false
set_option linter.unusedSimpArgs false

theorem cell_set_ne {W : World} {g o a j : Nat} (hga : g ≠ a) (u : Value) : (W.setCell ⟨a, j, none⟩ u).cell? ⟨g, o, none⟩ = W.cell? ⟨g, o, none⟩ := by
  have h := Below.heap_setCell W ⟨a, j, none⟩ u g hga
  unfold World.cell?
  rw [h]
/-- The place of the i-th number of a column. -/
def colAt (x x0 w i : Int) : Int := wrap64 (wrap64 (wrap64 (i * w) + x) - x0)
def setF (x x0 w : Int) (col : List Int) : Nat → Int → List Int → Option (List Int)
  | 0, _, _ => none
  | k + 1, i, D => if i < (col.length : Int) then (if 0 ≤ i then (if 0 ≤ colAt x x0 w i ∧ colAt x x0 w i < (D.length : Int) then setF x x0 w col k (wrap64 (i + 1)) (D.set (colAt x x0 w i).toNat (rd col i)) else none) else none) else some D
theorem setF_length {x x0 w : Int} {col : List Int} : ∀ {k : Nat} {i : Int} {D E : List Int}, setF x x0 w col k i D = some E → E.length = D.length
  | 0, _, _, _, h => by simp [setF] at h
  | k + 1, i, D, E, h => by
    rw [setF.eq_2] at h
    split at h
    · split at h
      · split at h
        · have := setF_length h
          rwa [List.length_set] at this
        · cases h
      · cases h
    · rw [Option.some.inj h]
set_option maxHeartbeats 8000000 in
set_option maxRecDepth 100000 in
theorem dwt_setColumn.good (k g o a n c : Nat) (x0 x1 : Int) (D D' : List Int) (x : Int) (A : Option Addr) (cc : Nat) (col : List Int) (base base2 : Nat) (ok : Nat → Prop) (w0 w : World)
    (hce : w.cell? ⟨g, o, none⟩ = some (.int .i64 x0) ∧ w.cell? ⟨g, o + 2, none⟩ = some (.int .i64 x1) ∧ w.cell? ⟨g, o + 4, none⟩ = some (.slice (some ⟨a, 0, none⟩) n c)) (hga : g ≠ a) (hr : Kd.R (Kd.int .i64) 3 w base ok (.slice (some ⟨a, 0, none⟩) n c) D) (hcol : Kd.R (Kd.int .i64) 3 w base2 (fun k => k ≠ a) (.slice A col.length cc) col) (hB : Below base w0 w) (h : setF x x0 (wrap64 (x1 - x0)) col k 0 D = some D') :
    Calls Try.prog 63 #[.pointer (some ⟨g, o, none⟩), .int .i64 x, .slice A col.length cc] w fun e w' => e = .returned (.tuple #[]) ∧ Kd.R (Kd.int .i64) 3 w' base ok (.slice (some ⟨a, 0, none⟩) n c) D' ∧ Kept w w' (fun k => k = a) ∧ Below base w0 w' := by
  have H := Aside0.mk h
  have HCE := Aside0.mk hce
  have HL := Aside0.mk hr
  have HC := Aside0.mk hcol
  have HB := Aside0.mk hB
  have HK := Aside0.mk (Kept.refl w (fun k => k = a))
  have HA := Aside0.mk (And.intro hga (show base ≤ a from Kd.R_base hr a rfl))
  have HN := Aside0.mk (show n = D.length from (Kd.R_reads' hr).1)
  clear h hce hr hcol hB hga
  go_enter Try.func63, Try.ntmps63
  go_upto_region 0 with (fail)
  go_cut [6] (fun v6 wc => v6 = .int .i64 (wrap64 (x1 - x0)) ∧ wc = w.drew)
  case first =>
    refine start_ (n := 12) (S := fun w' => w'.cell? ⟨g, o, none⟩ = some (.int .i64 x0) ∧ w'.cell? ⟨g, o + 2, none⟩ = some (.int .i64 x1) ∧ w'.cell? ⟨g, o + 4, none⟩ = some (.slice (some ⟨a, 0, none⟩) n c)) (ds := []) #[false, false, false, false, false, false, false, false, false, false, false, false] (by kernel_rfl) rfl rfl HCE.out (fun hHeld0 => ?_)
    generalize hw1 : w.drew = w1 at *
    clear hw1
    have hHeld := Aside0.mk hHeld0
    clear hHeld0
    refine pure_ (i := 0) (N := some 9) (v := ?_) (a' := ?_) #[true, false, false, false, false, false, false, false, false, false, false, false] rfl rfl (by kernel_rfl) (fun _ _ _ h => h) (Or.inl ⟨by rfl, ?_⟩) ?_ ?_
    rotate_left
    · intro w'
      go_simp
      with_reducible rfl
    rotate_left
    · simp only [Act.put, List.setIfInBounds_toArray, List.set_cons_zero, List.set_cons_succ, i64_w, i32_w]
      rfl
    refine pure_ (i := 1) (N := some 10) (v := ?_) (a' := ?_) #[true, true, false, false, false, false, false, false, false, false, false, false] rfl rfl (by kernel_rfl) (fun _ _ _ h => h) (Or.inl ⟨by rfl, ?_⟩) ?_ ?_
    rotate_left
    · intro w'
      go_simp
      with_reducible rfl
    rotate_left
    · simp only [Act.put, List.setIfInBounds_toArray, List.set_cons_zero, List.set_cons_succ, i64_w, i32_w]
      rfl
    refine pure_ (i := 2) (N := some 11) (v := ?_) (a' := ?_) #[true, true, true, false, false, false, false, false, false, false, false, false] rfl rfl (by kernel_rfl) (fun _ _ _ h => h) (Or.inl ⟨by rfl, ?_⟩) ?_ ?_
    rotate_left
    · intro w'
      go_simp
      with_reducible rfl
    rotate_left
    · simp only [Act.put, List.setIfInBounds_toArray, List.set_cons_zero, List.set_cons_succ, i64_w, i32_w]
      rfl
    refine pure_ (i := 3) (N := some 12) (v := ?_) (a' := ?_) #[true, true, true, true, false, false, false, false, false, false, false, false] rfl rfl (by kernel_rfl) (fun _ _ _ h => h) (Or.inl ⟨by rfl, ?_⟩) ?_ ?_
    rotate_left
    · intro w'
      go_simp
      with_reducible rfl
    rotate_left
    · simp only [Act.put, List.setIfInBounds_toArray, List.set_cons_zero, List.set_cons_succ, i64_w, i32_w]
      rfl
    refine take_ (i := 4) (N := some 13) (v := ?_) (a' := ?_) #[true, true, true, true, true, false, false, false, false, false, false, false] rfl rfl (by kernel_rfl) (fun _ _ _ h => h) (Or.inl ⟨by rfl, ?_⟩) hHeld.out ?_ ?_
    rotate_left
    · rintro w' ⟨s0, s1, s2⟩
      go_simp
      with_reducible rfl
    rotate_left
    · simp only [Act.put, List.setIfInBounds_toArray, List.set_cons_zero, List.set_cons_succ, i64_w, i32_w]
      rfl
    refine pure_ (i := 5) (N := some 14) (v := ?_) (a' := ?_) #[true, true, true, true, true, true, false, false, false, false, false, false] rfl rfl (by kernel_rfl) (fun _ _ _ h => h) (Or.inl ⟨by rfl, ?_⟩) ?_ ?_
    rotate_left
    · intro w'
      go_simp
      with_reducible rfl
    rotate_left
    · simp only [Act.put, List.setIfInBounds_toArray, List.set_cons_zero, List.set_cons_succ, i64_w, i32_w]
      rfl
    refine pure_ (i := 6) (N := some 15) (v := ?_) (a' := ?_) #[true, true, true, true, true, true, true, false, false, false, false, false] rfl rfl (by kernel_rfl) (fun _ _ _ h => h) (Or.inl ⟨by rfl, ?_⟩) ?_ ?_
    rotate_left
    · intro w'
      go_simp
      with_reducible rfl
    rotate_left
    · simp only [Act.put, List.setIfInBounds_toArray, List.set_cons_zero, List.set_cons_succ, i64_w, i32_w]
      rfl
    refine pure_ (i := 7) (N := some 16) (v := ?_) (a' := ?_) #[true, true, true, true, true, true, true, true, false, false, false, false] rfl rfl (by kernel_rfl) (fun _ _ _ h => h) (Or.inl ⟨by rfl, ?_⟩) ?_ ?_
    rotate_left
    · intro w'
      go_simp
      with_reducible rfl
    rotate_left
    · simp only [Act.put, List.setIfInBounds_toArray, List.set_cons_zero, List.set_cons_succ, i64_w, i32_w]
      rfl
    refine pure_ (i := 8) (N := some 17) (v := ?_) (a' := ?_) #[true, true, true, true, true, true, true, true, true, false, false, false] rfl rfl (by kernel_rfl) (fun _ _ _ h => h) (Or.inl ⟨by rfl, ?_⟩) ?_ ?_
    rotate_left
    · intro w'
      go_simp
      with_reducible rfl
    rotate_left
    · simp only [Act.put, List.setIfInBounds_toArray, List.set_cons_zero, List.set_cons_succ, i64_w, i32_w]
      rfl
    refine take_ (i := 9) (N := some 18) (v := ?_) (a' := ?_) #[true, true, true, true, true, true, true, true, true, true, false, false] rfl rfl (by kernel_rfl) (fun _ _ _ h => h) (Or.inl ⟨by rfl, ?_⟩) hHeld.out ?_ ?_
    rotate_left
    · rintro w' ⟨s0, s1, s2⟩
      go_simp
      with_reducible rfl
    rotate_left
    · simp only [Act.put, List.setIfInBounds_toArray, List.set_cons_zero, List.set_cons_succ, i64_w, i32_w]
      rfl
    refine pure_ (i := 10) (N := some 19) (v := ?_) (a' := ?_) #[true, true, true, true, true, true, true, true, true, true, true, false] rfl rfl (by kernel_rfl) (fun _ _ _ h => h) (Or.inl ⟨by rfl, ?_⟩) ?_ ?_
    rotate_left
    · intro w'
      go_simp
      with_reducible rfl
    rotate_left
    · simp only [Act.put, List.setIfInBounds_toArray, List.set_cons_zero, List.set_cons_succ, i64_w, i32_w]
      rfl
    refine pure_ (i := 11) (N := some 6) (v := ?_) (a' := ?_) #[true, true, true, true, true, true, true, true, true, true, true, true] rfl rfl (by kernel_rfl) (fun _ _ _ h => h) (Or.inl ⟨by rfl, ?_⟩) ?_ ?_
    rotate_left
    · intro w'
      go_simp
      with_reducible rfl
    rotate_left
    · simp only [Act.put, List.setIfInBounds_toArray, List.set_cons_zero, List.set_cons_succ, i64_w, i32_w]
      rfl
    refine done_ (by kernel_rfl) ?_
    clear hHeld
    go_wp2
    go_meet
    case rel => exact ⟨rfl, rfl⟩
  case rest =>
  obtain ⟨rfl, rfl⟩ := hcut
  have HCE' := Aside0.mk (show w.drew.cell? ⟨g, o, none⟩ = some (.int .i64 x0) ∧ w.drew.cell? ⟨g, o + 2, none⟩ = some (.int .i64 x1) ∧ w.drew.cell? ⟨g, o + 4, none⟩ = some (.slice (some ⟨a, 0, none⟩) n c) from HCE.out)
  have HL' := Aside0.mk (Kd.R_drew HL.out)
  have HC' := Aside0.mk (Kd.R_drew HC.out)
  have HB' := Aside0.mk (below_drew1 HB.out)
  have HK' := Aside0.mk HK.out.drew
  clear HCE HL HC HB HK
  go_wp2
  go_loopg [22] k (fun kq v22 w' => ∃ (i : Int) (E : List Int), v22 = .int .i64 i ∧ Aside0 (n = E.length) ∧ Aside0 (setF x x0 (wrap64 (x1 - x0)) col kq i E = some D') ∧ Aside0 (w'.cell? ⟨g, o, none⟩ = some (.int .i64 x0) ∧ w'.cell? ⟨g, o + 2, none⟩ = some (.int .i64 x1) ∧ w'.cell? ⟨g, o + 4, none⟩ = some (.slice (some ⟨a, 0, none⟩) n c)) ∧ Aside0 (Kd.R (Kd.int .i64) 3 w' base ok (.slice (some ⟨a, 0, none⟩) n c) E) ∧ Aside0 (Kd.R (Kd.int .i64) 3 w' base2 (fun k => k ≠ a) (.slice A col.length cc) col) ∧ Aside0 (Kept w w' (fun k => k = a)) ∧ Aside0 (Below base w0 w'))
  case atStart => exact ⟨0, D, rfl, HN, H, HCE', HL', HC', HK', HB'⟩
  case round =>
  clear H HN HCE' HL' HC' HB' HK'
  obtain ⟨i, E, rfl, HN, HX, HCE, HL, HC, HK, HB⟩ := hrel
  cases gk with
  | zero => exact absurd HX.out (by simp [setF])
  | succ kk =>
  have hs := HX.out
  clear HX
  rw [setF.eq_2] at hs
  by_cases hi : i < (col.length : Int)
  rotate_left
  · rw [if_neg hi] at hs
    have hb0 : decide (i < (col.length : Int)) = false := decide_eq_false hi
    obtain rfl := Option.some.inj hs
    clear hs hi
    go_wp2
    go_end0
    exact ⟨rfl, HL.out, HK.out, HB.out⟩
  rw [if_pos hi] at hs
  by_cases hi0 : 0 ≤ i
  rotate_left
  · rw [if_neg hi0] at hs
    cases hs
  rw [if_pos hi0] at hs
  by_cases hj : 0 ≤ colAt x x0 (wrap64 (x1 - x0)) i ∧ colAt x x0 (wrap64 (x1 - x0)) i < (E.length : Int)
  rotate_left
  · rw [if_neg hj] at hs
    cases hs
  rw [if_pos hj] at hs
  have HX := Aside0.mk hs
  have hb0 : decide (i < (col.length : Int)) = true := decide_eq_true hi
  obtain ⟨ad, e0, hx⟩ := Kd.at_int (Kd.R_reads' HC.out).2.2 i hi0 hi
  subst e0
  have p0 : (0 ≤ i) = True := eq_true hi0
  have p1 : (i < (col.length : Int)) = True := eq_true hi
  obtain ⟨hj0, hj1⟩ := hj
  rw [← HN.out] at hj1
  have q0 : (0 ≤ wrap64 (wrap64 (wrap64 (i * wrap64 (x1 - x0)) + x) - x0)) = True := eq_true hj0
  have q1 : (wrap64 (wrap64 (wrap64 (i * wrap64 (x1 - x0)) + x) - x0) < (n : Int)) = True := eq_true hj1
  have q2 : ((wrap64 (wrap64 (wrap64 (i * wrap64 (x1 - x0)) + x) - x0)).toNat < n) = True := eq_true (by have h1 : 0 ≤ colAt x x0 (wrap64 (x1 - x0)) i := hj0; have h2 : colAt x x0 (wrap64 (x1 - x0)) i < (n : Int) := hj1; show (colAt x x0 (wrap64 (x1 - x0)) i).toNat < n; omega)
  clear hs hi hi0
  go_wp2
  have HCE' := Aside0.mk (show wr.drew.cell? ⟨g, o, none⟩ = some (.int .i64 x0) ∧ wr.drew.cell? ⟨g, o + 2, none⟩ = some (.int .i64 x1) ∧ wr.drew.cell? ⟨g, o + 4, none⟩ = some (.slice (some ⟨a, 0, none⟩) n c) from HCE.out)
  have HL' := Aside0.mk (Kd.R_drew HL.out)
  have HC' := Aside0.mk (Kd.R_drew HC.out)
  have HB' := Aside0.mk (below_drew1 HB.out)
  have HK' := Aside0.mk HK.out.drew
  clear HCE HL HC HB HK hx
  have HCE := HCE'
  have HL := HL'
  have HC := HC'
  have HB := HB'
  have HK := HK'
  clear HCE' HL' HC' HB' HK'
  have hxd : True := trivial
  refine start_ (n := 18) (S := fun w' => w'.cell? ⟨g, o, none⟩ = some (.int .i64 x0) ∧ w'.cell? ⟨g, o + 2, none⟩ = some (.int .i64 x1) ∧ w'.cell? ⟨g, o + 4, none⟩ = some (.slice (some ⟨a, 0, none⟩) n c)) (ds := [17]) #[false, false, false, false, false, false, false, false, false, false, false, false, false, false, false, false, false, false] (by kernel_rfl) rfl rfl HCE.out (fun hHeld0 => ?_)
  generalize hw2 : wr.drew = w2 at *
  clear hw2
  have hHeld := Aside0.mk hHeld0
  clear hHeld0
  refine pure_ (i := 0) (N := some 27) (v := ?_) (a' := ?_) #[true, false, false, false, false, false, false, false, false, false, false, false, false, false, false, false, false, false] rfl rfl (by kernel_rfl) (fun _ _ _ h => h) (Or.inl ⟨by rfl, ?_⟩) ?_ ?_
  rotate_left
  · intro w'
    go_simp
    with_reducible rfl
  rotate_left
  · simp only [Act.put, List.setIfInBounds_toArray, List.set_cons_zero, List.set_cons_succ, i64_w, i32_w]
    rfl
  refine pure_ (i := 1) (N := some 28) (v := ?_) (a' := ?_) #[true, true, false, false, false, false, false, false, false, false, false, false, false, false, false, false, false, false] rfl rfl (by kernel_rfl) (fun _ _ _ h => h) (Or.inl ⟨by rfl, ?_⟩) ?_ ?_
  rotate_left
  · intro w'
    go_simp
    with_reducible rfl
  rotate_left
  · simp only [Act.put, List.setIfInBounds_toArray, List.set_cons_zero, List.set_cons_succ, i64_w, i32_w]
    rfl
  refine pure_ (i := 2) (N := some 29) (v := ?_) (a' := ?_) #[true, true, true, false, false, false, false, false, false, false, false, false, false, false, false, false, false, false] rfl rfl (by kernel_rfl) (fun _ _ _ h => h) (Or.inl ⟨by rfl, ?_⟩) ?_ ?_
  rotate_left
  · intro w'
    go_simp
    with_reducible rfl
  rotate_left
  · simp only [Act.put, List.setIfInBounds_toArray, List.set_cons_zero, List.set_cons_succ, i64_w, i32_w]
    rfl
  refine take_ (i := 3) (N := some 30) (v := ?_) (a' := ?_) #[true, true, true, true, false, false, false, false, false, false, false, false, false, false, false, false, false, false] rfl rfl (by kernel_rfl) (fun _ _ _ h => h) (Or.inl ⟨by rfl, ?_⟩) hHeld.out ?_ ?_
  rotate_left
  · rintro w' ⟨s0, s1, s2⟩
    go_simp
    with_reducible rfl
  rotate_left
  · simp only [Act.put, List.setIfInBounds_toArray, List.set_cons_zero, List.set_cons_succ, i64_w, i32_w]
    rfl
  refine pure_ (i := 4) (N := some 31) (v := ?_) (a' := ?_) #[true, true, true, true, true, false, false, false, false, false, false, false, false, false, false, false, false, false] rfl rfl (by kernel_rfl) (fun _ _ _ h => h) (Or.inl ⟨by rfl, ?_⟩) ?_ ?_
  rotate_left
  · intro w'
    go_simp
    with_reducible rfl
  rotate_left
  · simp only [Act.put, List.setIfInBounds_toArray, List.set_cons_zero, List.set_cons_succ, i64_w, i32_w]
    rfl
  refine pure_ (i := 5) (N := some 32) (v := ?_) (a' := ?_) #[true, true, true, true, true, true, false, false, false, false, false, false, false, false, false, false, false, false] rfl rfl (by kernel_rfl) (fun _ _ _ h => h) (Or.inl ⟨by rfl, ?_⟩) ?_ ?_
  rotate_left
  · intro w'
    go_simp
    with_reducible rfl
  rotate_left
  · simp only [Act.put, List.setIfInBounds_toArray, List.set_cons_zero, List.set_cons_succ, i64_w, i32_w]
    rfl
  refine pure_ (i := 6) (N := some 33) (v := ?_) (a' := ?_) #[true, true, true, true, true, true, true, false, false, false, false, false, false, false, false, false, false, false] rfl rfl (by kernel_rfl) (fun _ _ _ h => h) (Or.inl ⟨by rfl, ?_⟩) ?_ ?_
  rotate_left
  · intro w'
    go_simp
    with_reducible rfl
  rotate_left
  · simp only [Act.put, List.setIfInBounds_toArray, List.set_cons_zero, List.set_cons_succ, i64_w, i32_w]
    rfl
  refine pure_ (i := 7) (N := some 34) (v := ?_) (a' := ?_) #[true, true, true, true, true, true, true, true, false, false, false, false, false, false, false, false, false, false] rfl rfl (by kernel_rfl) (fun _ _ _ h => h) (Or.inl ⟨by rfl, ?_⟩) ?_ ?_
  rotate_left
  · intro w'
    go_simp
    with_reducible rfl
  rotate_left
  · simp only [Act.put, List.setIfInBounds_toArray, List.set_cons_zero, List.set_cons_succ, i64_w, i32_w]
    rfl
  refine pure_ (i := 8) (N := some 35) (v := ?_) (a' := ?_) #[true, true, true, true, true, true, true, true, true, false, false, false, false, false, false, false, false, false] rfl rfl (by kernel_rfl) (fun _ _ _ h => h) (Or.inl ⟨by rfl, ?_⟩) ?_ ?_
  rotate_left
  · intro w'
    go_simp
    with_reducible rfl
  rotate_left
  · simp only [Act.put, List.setIfInBounds_toArray, List.set_cons_zero, List.set_cons_succ, i64_w, i32_w]
    rfl
  refine pure_ (i := 9) (N := some 36) (v := ?_) (a' := ?_) #[true, true, true, true, true, true, true, true, true, true, false, false, false, false, false, false, false, false] rfl rfl (by kernel_rfl) (fun _ _ _ h => h) (Or.inl ⟨by rfl, ?_⟩) ?_ ?_
  rotate_left
  · intro w'
    go_simp
    with_reducible rfl
  rotate_left
  · simp only [Act.put, List.setIfInBounds_toArray, List.set_cons_zero, List.set_cons_succ, i64_w, i32_w]
    rfl
  refine pure_ (i := 10) (N := some 37) (v := ?_) (a' := ?_) #[true, true, true, true, true, true, true, true, true, true, true, false, false, false, false, false, false, false] rfl rfl (by kernel_rfl) (fun _ _ _ h => h) (Or.inl ⟨by rfl, ?_⟩) ?_ ?_
  rotate_left
  · intro w'
    go_simp
    with_reducible rfl
  rotate_left
  · simp only [Act.put, List.setIfInBounds_toArray, List.set_cons_zero, List.set_cons_succ, i64_w, i32_w]
    rfl
  refine pure_ (i := 11) (N := some 38) (v := ?_) (a' := ?_) #[true, true, true, true, true, true, true, true, true, true, true, true, false, false, false, false, false, false] rfl rfl (by kernel_rfl) (fun _ _ _ h => h) (Or.inl ⟨by rfl, ?_⟩) ?_ ?_
  rotate_left
  · intro w'
    go_simp
    with_reducible rfl
  rotate_left
  · simp only [Act.put, List.setIfInBounds_toArray, List.set_cons_zero, List.set_cons_succ, i64_w, i32_w]
    rfl
  refine pure_ (i := 12) (N := some 39) (v := ?_) (a' := ?_) #[true, true, true, true, true, true, true, true, true, true, true, true, true, false, false, false, false, false] rfl rfl (by kernel_rfl) (fun _ _ _ h => h) (Or.inl ⟨by rfl, ?_⟩) ?_ ?_
  rotate_left
  · intro w'
    go_simp
    with_reducible rfl
  rotate_left
  · simp only [Act.put, List.setIfInBounds_toArray, List.set_cons_zero, List.set_cons_succ, i64_w, i32_w]
    rfl
  refine take_ (i := 13) (N := some 40) (v := ?_) (a' := ?_) #[true, true, true, true, true, true, true, true, true, true, true, true, true, true, false, false, false, false] rfl rfl (by kernel_rfl) (fun _ _ _ h => h) (Or.inl ⟨by rfl, ?_⟩) hHeld.out ?_ ?_
  rotate_left
  · rintro w' ⟨s0, s1, s2⟩
    go_simp
    with_reducible rfl
  rotate_left
  · simp only [Act.put, List.setIfInBounds_toArray, List.set_cons_zero, List.set_cons_succ, i64_w, i32_w]
    rfl
  refine pure_ (i := 14) (N := some 41) (v := ?_) (a' := ?_) #[true, true, true, true, true, true, true, true, true, true, true, true, true, true, true, false, false, false] rfl rfl (by kernel_rfl) (fun _ _ _ h => h) (Or.inl ⟨by rfl, ?_⟩) ?_ ?_
  rotate_left
  · intro w'
    go_simp
    with_reducible rfl
  rotate_left
  · simp only [Act.put, List.setIfInBounds_toArray, List.set_cons_zero, List.set_cons_succ, i64_w, i32_w]
    rfl
  refine pure_ (i := 15) (N := some 42) (v := ?_) (a' := ?_) #[true, true, true, true, true, true, true, true, true, true, true, true, true, true, true, true, false, false] rfl rfl (by kernel_rfl) (fun _ _ _ h => h) (Or.inl ⟨by rfl, ?_⟩) ?_ ?_
  rotate_left
  · intro w'
    go_simp
    with_reducible rfl
  rotate_left
  · simp only [Act.put, List.setIfInBounds_toArray, List.set_cons_zero, List.set_cons_succ, i64_w, i32_w]
    rfl
  refine pure_ (i := 16) (N := some 43) (v := ?_) (a' := ?_) #[true, true, true, true, true, true, true, true, true, true, true, true, true, true, true, true, true, false] rfl rfl (by kernel_rfl) (fun _ _ _ h => h) (Or.inl ⟨by rfl, ?_⟩) ?_ ?_
  rotate_left
  · intro w'
    go_simp
    with_reducible rfl
  rotate_left
  · simp only [Act.put, List.setIfInBounds_toArray, List.set_cons_zero, List.set_cons_succ, i64_w, i32_w]
    rfl
  refine last_ (i := 17) (N := none) #[true, true, true, true, true, true, true, true, true, true, true, true, true, true, true, true, true, true] rfl rfl (by kernel_rfl) (by decide) (fun KC hK => ?_)
  obtain ⟨hc9, hz9⟩ := Kd.R_celln (0 : Int) HL.out (colAt x x0 (wrap64 (x1 - x0)) i) hj0 hj1
  replace hc9 : w2.cell? ⟨a, (wrap64 (wrap64 (wrap64 (i * wrap64 (x1 - x0)) + x) - x0)).toNat, none⟩ = some (.int .i64 (rd E (colAt x x0 (wrap64 (x1 - x0)) i))) := hc9
  replace hz9 : w2.frozen? ⟨a, (wrap64 (wrap64 (wrap64 (i * wrap64 (x1 - x0)) + x) - x0)).toNat, none⟩ = false := hz9
  refine skip_ (w1 := ?_) (by rfl) rfl ?_ ?_
  rotate_left
  · go_simp
    rfl
  refine hK.out _ _ ?_
  clear hK KC
  refine done_ (by kernel_rfl) ?_
  clear hHeld hc9 hz9
  go_wp2
  go_roundg kk
  case measure => omega
  case rel => exact ⟨_, _, rfl, ⟨by rw [List.length_set]; exact HN.out⟩, HX, ⟨(cell_set_ne HA.out.1 _).trans HCE.out.1, (cell_set_ne HA.out.1 _).trans HCE.out.2.1, (cell_set_ne HA.out.1 _).trans HCE.out.2.2⟩, ⟨Kd.R_putn HL.out _ _⟩, ⟨Kd.R_far HC.out (fun k hk => hk) _⟩, ⟨HK.out.setCell (.inl rfl) _⟩, ⟨HB.out.setCell HA.out.2 _⟩⟩
end Go.Proofs.Ytcnpekpgghppnaa.Q

/- copy(row[a:b], ys) as one step of a region, the row being the call's own (its words: Kd.R): behind it the row is the splice. By a program of this session. -/
namespace Go.Proofs.YtcnpekpgghppnaaW.PrintWords
open Go Go.RowKit
section
variable {P : Program}
theorem cut_own (t e : TypeId) {i : TypeInfo} (ht : P.underlying t = some (.slice e)) (hi : P.info? e = some i) (hsz : i.size = 1) (A : Option Addr) (n c : Nat) (a b : Int) (h0 : 0 ≤ a) (h1 : a ≤ b) (hm : b ≤ n) (hc : n ≤ c) :
    ∃ D : Option Addr, (0 < b.toNat - a.toNat → D = A.map (·.add a.toNat)) ∧ ∀ W : World, (Instr.slice t (.slice A n c) (some (.int .i64 a)) (some (.int .i64 b)) none).run P W = .ok (.slice D (b.toNat - a.toNat) (c - a.toNat)) W := by
  refine ⟨if c = a.toNat then A else A.map (·.add a.toNat), fun h => if_neg (by omega), fun W => ?_⟩
  have hel : P.elem t = e := by simp [Program.elem, ht]
  have hu : P.underlying t = some (.slice (P.elem t)) := by rw [hel]; exact ht
  rw [run_slice_lh W t A n c hu .i64 .i64 a b h0 h1 (by omega), hel]
  simp [sizeOf, typeInfo, hi, hsz, sliced, Result.andThen]
theorem take_splice {α : Type} (cur cs : List α) (N off : Nat) (h1 : off + cs.length ≤ N) (h2 : N ≤ cur.length) : (cur.take off ++ (cs ++ cur.drop (off + cs.length))).take N = (cur.take N).take off ++ (cs ++ (cur.take N).drop (off + cs.length)) := by
  have hA : (cur.take off).length = off := by rw [List.length_take]; omega
  rw [List.take_append, List.take_append, hA, List.take_take, List.take_take, List.drop_take, Nat.min_eq_right (by omega), Nat.min_eq_left (by omega), List.take_of_length_le (by omega : cs.length ≤ N - off), Nat.sub_sub]
theorem map_add0 (A : Option Addr) : A = A.map (·.add 0) := by cases A <;> simp [Addr.add]
theorem splice_nil {α : Type} (xs : List α) (off : Nat) : splice xs off [] = xs := by simp [splice]
theorem step_copyR {ops : Array Oper} {o : Oper} {a : Act} {w : World} {K : Act → World → Prop} {Q : Exit → Act → World → Prop} {E : Prop} (hgd : o.guard = none) (d s : Operand) (dT sT : TypeId)
    (ho : o.op = .call { callee := .builtin .copy, args := #[d, s], argTypes := #[dT, sT] }) {elem : TypeId} (hu : P.underlying dT = some (.slice elem)) (hsz : (P.info? elem).map (·.size) = some 1)
    {base : Nat} {ok : Nat → Prop} {A : Option Addr} {n cap : Nat} {xs ys : List Int} (HO : Kd.R (Kd.int .i64) elem w base ok (.slice A n cap) xs) (off m dcap : Nat) {D : Option Addr} (hD : 0 < m → D = A.map (·.add off)) (hto : off + m ≤ n)
    {sp : Option Addr} {sCap : Nat} (HR : Kd.C (Kd.int .i64) w sp ys.length ys)
    (hd : a.eval d = .slice D m dcap) (hs : a.eval s = .slice sp ys.length sCap)
    (h : ∀ w', Kd.R (Kd.int .i64) elem w' base ok (.slice A n cap) (splice xs off (ys.take m)) → w.grownBy w' (Value.slice A n cap).ownBlock → K (a.put o.dst (goInt (Nat.min ys.length m))) w') :
    if Region.wanted o (yielded ops a.tmps) = true then Oper.wp P o a w K Q else E := by
  have hw : Region.wanted o (yielded ops a.tmps) = true := by simp [Region.wanted, hgd]
  rw [if_pos hw]
  have hown := Kd.own_of_R HO
  have hokv := HO.1
  by_cases h0 : Nat.min ys.length m = 0
  · have hrun := run_copy_none (P := P) w dT sT o.type elem D sp m dcap ys.length sCap hu hsz h0
    have ht : ys.take m = [] := by
      apply List.eq_nil_of_length_eq_zero
      rw [List.length_take]
      simpa [Nat.min_comm] using h0
    have hk := h w (by rw [ht, splice_nil]; exact HO) ⟨rfl, rfl, rfl, Nat.le_refl _, fun _ _ _ => rfl⟩
    rw [h0] at hk
    unfold Oper.wp
    simp [execOp, ho, resolve, invoke, builtin, hd, hs, hrun, Result.andThen]
    exact hk
  · have hy0 : 0 < ys.length := by
      rcases Nat.eq_zero_or_pos ys.length with e | e
      · exact absurd (by rw [e]; exact Nat.zero_min m) h0
      · exact e
    have hm0 : 0 < m := by
      rcases Nat.eq_zero_or_pos m with e | e
      · exact absurd (by rw [e]; exact Nat.min_zero _) h0
      · exact e
    obtain ⟨hlen, ⟨he, hz⟩ | ⟨g, cap', cur, he, hg, hh, hn1, hcap, hcur, htake⟩⟩ := hown
    · injection he with e1 e2 e3
      omega
    · injection he with e1 e2 e3
      subst e1 e2 e3
      have hD' := hD hm0
      have hD2 : D = some ⟨g, off, none⟩ := by rw [hD']; simp [Addr.add]; intro e; exact e.symm
      subst hD2
      obtain ⟨hyl, _, hcells⟩ := HR
      obtain ⟨ad, rfl, hcell⟩ := hcells hy0
      obtain ⟨cs, hcs⟩ : ∃ cs : List Value, cs = (ys.take m).map (Value.int .i64) := ⟨_, rfl⟩
      have hcl : cs.length = Nat.min ys.length m := by
        rw [hcs, List.length_map, List.length_take]
        exact Nat.min_comm _ _
      have hcm : cs.length ≤ m := by rw [hcl]; exact Nat.min_le_right _ _
      have hsrc : ∀ j v, cs[j]? = some v → w.cell? (ad.add j) = some v := by
        intro j v hv
        have hj : j < cs.length := (List.getElem?_eq_some_iff.1 hv).1
        have hj2 : j < ys.length := by rw [hcl] at hj; exact Nat.lt_of_lt_of_le hj (Nat.min_le_left _ _)
        have hjm : j < m := by omega
        obtain ⟨c, _, hK, hc⟩ := hcell j _ (List.getElem?_eq_getElem hj2)
        have hK' : c = [Value.int .i64 ys[j]] := hK
        subst hK'
        have h3 := hc 0 _ rfl
        have h4 : v = Value.int .i64 ys[j] := by
          rw [hcs, List.getElem?_map, List.getElem?_take_of_lt hjm, List.getElem?_eq_getElem hj2] at hv
          exact (Option.some.inj hv).symm
        rw [h4]
        simpa [Kd.int, Kd.scalar] using h3
      have hfit : off + cs.length ≤ cur.size := by omega
      have h1 : ∀ v ∈ cs, v.oneCell' = true := by
        intro v hv
        rw [hcs] at hv
        obtain ⟨q, _, rfl⟩ := List.mem_map.1 hv
        rfl
      have hrun := run_copy_row (P := P) w dT sT o.type elem g off m dcap ad ys.length sCap cur elem cs hu hsz hh hcl hsrc hfit h1
      unfold Oper.wp
      simp [execOp, ho, resolve, invoke, builtin, hd, hs, hrun, Result.andThen]
      rw [hcl]
      have hsl : (splice xs off (ys.take m)).length = xs.length := length_splice _ _ _ (by rw [List.length_take]; omega)
      refine h _ (Kd.R_of_own ⟨?_, .inr ⟨g, cap, (cur.toList.take off ++ (cs ++ cur.toList.drop (off + cs.length))).toArray, ?_, hg, ?_, ?_, hcap, ?_, ?_⟩⟩ hokv) ?_
      · rw [encs_length]; omega
      · rw [hsl]
      · rw [hcl]; exact setRow_heap w g _ _ elem _ hh
      · omega
      · have : cur.toList.length = cur.size := rfl
        simp
        omega
      · have hx : cur.toList.take (xs.length * 1) = xs.map (Value.int .i64) := htake
        rw [hsl]
        show List.take _ (cur.toList.take off ++ (cs ++ cur.toList.drop (off + cs.length))) = (splice xs off (ys.take m)).map (Value.int .i64)
        unfold splice
        rw [List.map_append, List.map_append, ← hcs, List.map_take, List.map_drop, ← hx]
        have hcl2 : (ys.take m).length = cs.length := by rw [hcs, List.length_map]
        rw [hcl2]
        have hcur2 : cur.toList.length = cap * 1 := hcur
        have ht := take_splice cur.toList cs (xs.length * 1) off (by omega) (by omega)
        simpa using ht
      · refine ⟨rfl, rfl, rfl, by simp [World.setRow], fun k hk hne => setRow_other w g k _ ?_⟩
        intro e
        exact hne (by rw [e]; rfl)
end
end Go.Proofs.YtcnpekpgghppnaaW.PrintWords

/- A row of a plane. Printed by wip/tools of this session. -/
namespace Go.Proofs.Ytcnpekpgghppnaa.Q
open Go.RowKit Go.Proofs.YtcnpekpgghppnaaW.PrintWords Go.Proofs.YtcnpekpgghppnaaW.PrintLast Go.Proofs.YtcnpekpgghppnaaW.PrintMore
set_option linter.unusedVariables false
set_option linter.unusedSimpArgs false

theorem splice_all {n : Nat} {cs : List Int} (h : cs.length = n) : splice (List.replicate n 0) 0 cs = cs := by
  simp [splice, h]
set_option maxHeartbeats 8000000 in
set_option maxRecDepth 100000 in
theorem plane_Row.good (x0 y0 x1 y1 : Int) (A : Option Addr) (c : Nat) (D : List Int) (y : Int) (w : World) (hr : Kd.C (Kd.int .i64) w A D.length D) (hc : D.length ≤ c) (hv : PV x0 y0 x1 y1 D) (hy0 : y0 ≤ y) (hy1 : y < y1) :
    Calls Try.prog 58 #[.agg #[.int .i64 x0, .int .i64 y0, .int .i64 x1, .int .i64 y1, .slice A D.length c], .int .i64 y] w fun e w' => ∃ v, e = .returned (.tuple #[v, .bool true]) ∧ Kd.R (Kd.int .i64) 3 w' w.heap.size (fun _ => True) v (List.take (x1 - x0).toNat (List.drop ((y - y0) * (x1 - x0)).toNat D)) ∧ Below w.heap.size w w' := by
  obtain ⟨j, hj⟩ : ∃ j : Int, j = (y - y0) * (x1 - x0) := ⟨_, rfl⟩
  have hx := hv.1
  have hyy := hv.2.1
  have hj0 : 0 ≤ j := by rw [hj]; exact Int.mul_nonneg (by omega) (by omega)
  have hj1 : j + (x1 - x0) ≤ (D.length : Int) := by
    rw [hj, hv.2.2.2, show (y - y0) * (x1 - x0) + (x1 - x0) = (y - y0 + 1) * (x1 - x0) by rw [Int.add_mul, Int.one_mul], Int.mul_comm (x1 - x0)]
    exact Int.mul_le_mul_of_nonneg_right (by omega) (by omega)
  have hj2 : (D.length : Int) ≤ 1048576 := by rw [hv.2.2.2]; exact hv.2.2.1
  rw [← hj]
  have hwj : wrap64 (wrap64 (y - y0) * (x1 - x0)) = j := by
    rw [show wrap64 (y - y0) = y - y0 by unfold wrap64; omega, ← hj]
    unfold wrap64
    omega
  have HR := Aside0.mk hr
  have HC := Aside0.mk hc
  have HV := Aside0.mk hv.valid
  have hw : wrap64 (x1 - x0) = x1 - x0 := by unfold wrap64; omega
  have HW := Aside0.mk (show plane_width.f x0 y0 x1 y1 D = some (x1 - x0) by unfold plane_width.f; rw [hw])
  have HN := Aside0.mk (show 0 ≤ x1 - x0 ∧ x1 - x0 ≤ 4096 by omega)
  have HJ := Aside0.mk (And.intro hj0 hj1)
  obtain ⟨i3, hi3, _, hsz3, _⟩ := info_parts info3
  obtain ⟨Ad, hcut, hA, hCd⟩ := print_drop_of (P := Try.prog) (Value.int .i64) 0 24 3 .i64 Try.underlying24 hi3 hsz3 A c D j hj0 (by omega) hc
  have HRD := Aside0.mk (Kd.C_of_reads (h1 := fun _ => rfl) (hA _ (Kd.reads_of_C hr)))
  have b0 : decide (y < y0) = false := decide_eq_false (by omega)
  have b1 : decide (y ≥ y1) = false := decide_eq_false (by omega)
  have b2 : decide (y1 ≤ y) = false := decide_eq_false (by omega)
  clear hr hc hv hy0 hy1 hw hj hx hyy hj0 hj1 hj2 hA hCd hi3 hsz3
  have K00 := Aside0.mk (Bks.nil w)
  go_enter Try.func58, Try.ntmps58
  go_upto_region 4 with (first
    | ((with_reducible refine gate_dst (N := 2) rfl ?_); refine box_event ?hg (N := 2) ?hd (cs := #[.int .i64 x0, .int .i64 y0, .int .i64 x1, .int .i64 y1, .slice A D.length c]) (t := 26) ?hr ?_; (case hd => rfl); (case hg => rfl); (case hr => first | (go_simp; done) | (go_simp; rfl)); intro g2 hg W2 hbox hb; have K := Aside0.mk (K00.out.box (Nat.le_refl _) hg hbox hb); clear hg hbox hb K00)
    | ((with_reducible refine gate_dst (N := 7) rfl ?_); refine load_ev rfl 26 (.tmp 2) rfl rfl (K.out.get 0 rfl) Try.underlying26 rfl ?_)
    | ((with_reducible refine gate_dst (N := 24) rfl ?_); refine load_ev rfl 26 (.tmp 2) rfl rfl (K.out.get 0 rfl) Try.underlying26 rfl ?_)
    | (go_at_call 25; (with_reducible refine (plane_Valid.calls x0 y0 x1 y1 A c D true _ (Kd.C_below HR.out K.out.below) HC.out HV.out).mono ?_); rintro _ w1 ⟨rfl, b⟩; have K' := Aside0.mk (K.out.call (below_size K.out.below) b); clear K; have K := K'; clear K'; clear b; have f1 : w1.cell? ⟨g2, 1, none⟩ = some (.int .i64 y0) := K.out.cell 0 rfl 1 rfl; have f3 : w1.cell? ⟨g2, 3, none⟩ = some (.int .i64 y1) := K.out.cell 0 rfl 3 rfl)
    | (go_at_call 65; (with_reducible refine (plane_width.calls x0 y0 x1 y1 A c D (x1 - x0) _ (Kd.C_below HR.out K.out.below) HC.out HW.out).mono ?_); rintro _ w3 ⟨rfl, b⟩; clear f1 f3; have K' := Aside0.mk (K.out.call (below_size K.out.below) b); clear K; have K := K'; clear K'; clear b)
    | ((with_reducible refine gate_dst (N := 26) rfl ?_); refine Kd.R_make (Kd.int .i64) (w0 := w3) w3.heap.size 3 rfl (N := 26) rfl 24 (.tmp 25) (.tmp 25) rfl (x1 - x0) rfl rfl Try.underlying24 (.int .i64 0) 8 info3 rfl (by decide) (by omega) (0 : Int) (okp := fun _ => False) (ok := fun _ => True) rfl (fun _ h => h.elim) trivial (by have := HN.out; omega) (by have := HN.out; omega) (Below.refl _ _) (Nat.le_refl _) ?_; intro v6 w4 ho hb hg hat; obtain ⟨A6, c6, e6⟩ := Kd.R_slice ho; rw [List.length_replicate] at e6; subst e6; have HL := Aside0.mk (Kd.R_lower ho (below_size K.out.below)); have K' := Aside0.mk (K.out.call (below_size K.out.below) hb); clear K; have K := K'; clear K'; clear ho hb hat hg))
  clear b0 b1 b2 HV
  have HL' := Aside0.mk (Kd.R_drew HL.out)
  clear HL
  have HL := HL'
  clear HL'
  have K' := Aside0.mk (K.out.drew)
  clear K
  have K := K'
  clear K'
  refine start_ (n := 13) (S := fun w' => w'.heap[g2]? = some (.cells #[.int .i64 x0, .int .i64 y0, .int .i64 x1, .int .i64 y1, .slice A D.length c] 26 (0, 0))) (ds := []) #[false, false, false, false, false, false, false, false, false, false, false, false, false] (by kernel_rfl) rfl rfl (K.out.get 0 rfl) (fun hHeld0 => ?_)
  generalize hw5 : w4.drew = w5 at *
  clear hw5
  have hHeld := Aside0.mk hHeld0
  clear hHeld0
  refine pure_ (i := 0) (N := some 27) (v := ?_) (a' := ?_) #[true, false, false, false, false, false, false, false, false, false, false, false, false] rfl rfl (by kernel_rfl) (fun _ _ _ h => h) (Or.inl ⟨by rfl, ?_⟩) ?_ ?_
  rotate_left
  · intro w'
    go_simp
    with_reducible rfl
  rotate_left
  · simp only [Act.put, List.setIfInBounds_toArray, List.set_cons_zero, List.set_cons_succ, i64_w, i32_w]
    rfl
  refine pure_ (i := 1) (N := some 28) (v := ?_) (a' := ?_) #[true, true, false, false, false, false, false, false, false, false, false, false, false] rfl rfl (by kernel_rfl) (fun _ _ _ h => h) (Or.inl ⟨by rfl, ?_⟩) ?_ ?_
  rotate_left
  · intro w'
    go_simp
    with_reducible rfl
  rotate_left
  · simp only [Act.put, List.setIfInBounds_toArray, List.set_cons_zero, List.set_cons_succ, i64_w, i32_w]
    rfl
  refine take_ (i := 2) (N := some 29) (v := ?_) (a' := ?_) #[true, true, true, false, false, false, false, false, false, false, false, false, false] rfl rfl (by kernel_rfl) (fun _ _ _ h => h) (Or.inl ⟨by rfl, ?_⟩) hHeld.out ?_ ?_
  rotate_left
  · rintro w' hb0
    have s1 := blk_cell hb0 4
    clear hb0
    replace s1 := s1.trans rfl
    go_simp
    with_reducible rfl
  rotate_left
  · simp only [Act.put, List.setIfInBounds_toArray, List.set_cons_zero, List.set_cons_succ, i64_w, i32_w]
    rfl
  refine pure_ (i := 3) (N := some 30) (v := ?_) (a' := ?_) #[true, true, true, true, false, false, false, false, false, false, false, false, false] rfl rfl (by kernel_rfl) (fun _ _ _ h => h) (Or.inl ⟨by rfl, ?_⟩) ?_ ?_
  rotate_left
  · intro w'
    go_simp
    with_reducible rfl
  rotate_left
  · simp only [Act.put, List.setIfInBounds_toArray, List.set_cons_zero, List.set_cons_succ, i64_w, i32_w]
    rfl
  refine pure_ (i := 4) (N := some 31) (v := ?_) (a' := ?_) #[true, true, true, true, true, false, false, false, false, false, false, false, false] rfl rfl (by kernel_rfl) (fun _ _ _ h => h) (Or.inl ⟨by rfl, ?_⟩) ?_ ?_
  rotate_left
  · intro w'
    go_simp
    with_reducible rfl
  rotate_left
  · simp only [Act.put, List.setIfInBounds_toArray, List.set_cons_zero, List.set_cons_succ, i64_w, i32_w]
    rfl
  refine pure_ (i := 5) (N := some 32) (v := ?_) (a' := ?_) #[true, true, true, true, true, true, false, false, false, false, false, false, false] rfl rfl (by kernel_rfl) (fun _ _ _ h => h) (Or.inl ⟨by rfl, ?_⟩) ?_ ?_
  rotate_left
  · intro w'
    go_simp
    with_reducible rfl
  rotate_left
  · simp only [Act.put, List.setIfInBounds_toArray, List.set_cons_zero, List.set_cons_succ, i64_w, i32_w]
    rfl
  refine take_ (i := 6) (N := some 33) (v := ?_) (a' := ?_) #[true, true, true, true, true, true, true, false, false, false, false, false, false] rfl rfl (by kernel_rfl) (fun _ _ _ h => h) (Or.inl ⟨by rfl, ?_⟩) hHeld.out ?_ ?_
  rotate_left
  · rintro w' hb0
    have s1 := blk_cell hb0 1
    clear hb0
    replace s1 := s1.trans rfl
    go_simp
    with_reducible rfl
  rotate_left
  · simp only [Act.put, List.setIfInBounds_toArray, List.set_cons_zero, List.set_cons_succ, i64_w, i32_w]
    rfl
  refine pure_ (i := 7) (N := some 34) (v := ?_) (a' := ?_) #[true, true, true, true, true, true, true, true, false, false, false, false, false] rfl rfl (by kernel_rfl) (fun _ _ _ h => h) (Or.inl ⟨by rfl, ?_⟩) ?_ ?_
  rotate_left
  · intro w'
    go_simp
    with_reducible rfl
  rotate_left
  · simp only [Act.put, List.setIfInBounds_toArray, List.set_cons_zero, List.set_cons_succ, i64_w, i32_w]
    rfl
  refine take_ (i := 8) (N := some 35) (v := .agg #[.int .i64 x0, .int .i64 y0, .int .i64 x1, .int .i64 y1, .slice A D.length c]) (a' := ?_) #[true, true, true, true, true, true, true, true, true, false, false, false, false] rfl rfl (by kernel_rfl) (fun _ _ _ h => h) (load_yields (by rfl) 26 (.tmp 2) rfl rfl (fun _ h => h) Try.underlying26 rfl) hHeld.out ?_ ?_
  rotate_left
  · simp only [Act.put, List.setIfInBounds_toArray, List.set_cons_zero, List.set_cons_succ, i64_w, i32_w]
    rfl
  refine one_ (i := 9) (N := some 36) #[true, true, true, true, true, true, true, true, true, true, false, false, false] rfl rfl (by kernel_rfl) (by decide) (fun KC hK => ?_)
  refine goes_ Try.func65 (by kernel_rfl) rfl #[.agg #[.int .i64 x0, .int .i64 y0, .int .i64 x1, .int .i64 y1, .slice A D.length c]] (by rfl) rfl rfl (by simp only [List.map_toArray, List.map_cons, List.map_nil]; rfl) ?_
  refine (plane_width.calls x0 y0 x1 y1 A c D (x1 - x0) _ (Kd.C_below HR.out K.out.below) HC.out HW.out).mono ?_
  rintro _ w6 ⟨rfl, b⟩
  refine ⟨_, rfl, ?_⟩
  have HL' := Aside0.mk (Kd.R_below HL.out b)
  clear HL
  have HL := HL'
  clear HL'
  have K' := Aside0.mk (K.out.call (below_size K.out.below) b)
  clear K
  have K := K'
  clear K'
  clear b
  refine hK.out _ _ (K.out.get 0 rfl) (fun hHeld => ?_)
  clear hK KC
  refine norm_ (a' := ?_) ?_ ?_
  rotate_left
  · show Act.put _ (some 36) _ = _
    simp only [Act.put, List.setIfInBounds_toArray, List.set_cons_zero, List.set_cons_succ, i64_w, i32_w]
    rfl
  refine pure_ (i := 10) (N := some 37) (v := ?_) (a' := ?_) #[true, true, true, true, true, true, true, true, true, true, true, false, false] rfl rfl (by kernel_rfl) (fun _ _ _ h => h) (Or.inl ⟨by rfl, ?_⟩) ?_ ?_
  rotate_left
  · intro w'
    go_simp
    with_reducible rfl
  rotate_left
  · simp only [Act.put, List.setIfInBounds_toArray, List.set_cons_zero, List.set_cons_succ, i64_w, i32_w]
    rfl
  refine pure_ (i := 11) (N := some 38) (v := ?_) (a' := ?_) #[true, true, true, true, true, true, true, true, true, true, true, true, false] rfl rfl (by kernel_rfl) (fun _ _ _ h => h) (Or.inl ⟨by rfl, ?_⟩) ?_ ?_
  rotate_left
  · intro w'
    go_simp
    with_reducible rfl
  rotate_left
  · simp only [Act.put, List.setIfInBounds_toArray, List.set_cons_zero, List.set_cons_succ, i64_w, i32_w]
    rfl
  refine one_ (i := 12) (N := some 39) #[true, true, true, true, true, true, true, true, true, true, true, true, true] rfl rfl (by kernel_rfl) (by decide) (fun KC hK => ?_)
  refine step_copyR (P := Try.prog) (n := (x1 - x0).toNat) (ys := List.drop j.toNat D) rfl (.tmp 27) (.tmp 38) 24 24 rfl Try.underlying24 (by kernel_rfl) HL.out 0 (x1 - x0).toNat _ (fun _ => map_add0 _) (by omega) (Kd.C_below HRD.out K.out.below) rfl (by rw [List.length_drop]; rfl) ?_
  intro w7 hr hg
  rw [splice_all (by rw [List.length_take, List.length_drop]; have := HJ.out; omega)] at hr
  have K' := Aside0.mk (K.out.grown1 HL.out hg (K.out.below.grown hg (below_size K.out.below) (own_base (Kd.own_of_R HL.out))) (by decide))
  have HL' := Aside0.mk hr
  clear K HL hr hg
  have K := K'
  have HL := HL'
  clear K' HL'
  refine hK.out _ _ (K.out.get 0 rfl) (fun hHeld => ?_)
  clear hK KC
  refine norm_ (a' := ?_) ?_ ?_
  rotate_left
  · show Act.put _ (some 39) _ = _
    simp only [Act.put, List.setIfInBounds_toArray, List.set_cons_zero, List.set_cons_succ, i64_w, i32_w]
    rfl
  refine done_ (by kernel_rfl) ?_
  clear hHeld
  go_wp2
  go_ret2
  exact ⟨_, rfl, HL.out, K.out.below⟩
end Go.Proofs.Ytcnpekpgghppnaa.Q

/- A struct amid a block. dwt.Bands. Printed by wip/tools of this session. -/
namespace Go.Proofs.Ytcnpekpgghppnaa.Q
open Go.RowKit Go.Proofs.YtcnpekpgghppnaaW.PrintWords Go.Proofs.YtcnpekpgghppnaaW.PrintLast Go.Proofs.YtcnpekpgghppnaaW.PrintMore
set_option linter.unusedVariables false
set_option linter.unusedSimpArgs false

section
variable {P : Program} {ops : Array Oper} {rest : List Oper} {o : Oper} {a : Act} {Q : Exit → Act → World → Prop} {W : World} {g t i : Nat} {cs old : Array Value} {ty : TypeId} {d : TypeDesc} {K : Act → World → Prop}
theorem range_mid (hb : W.heap[g]? = some (.cells old t (0, 0))) (hr : ∀ (j : Nat) (v : Value), cs[j]? = some v → old[i + j]? = some v) : W.rangeAt g i cs.toList := fun j v hv => by
  rw [blk_cell hb (i + j)]
  exact hr j v (by simpa using hv)
theorem there_mid (hb : W.heap[g]? = some (.cells old t (0, 0))) {n : Nat} (hn : i + n ≤ old.size) : W.there g i n := fun j hj => by
  rw [blk_cell hb (i + j)]
  refine ⟨?_, blk_frozen hb (i + j)⟩
  rw [Array.getElem?_eq_getElem (by omega)]
  rfl
theorem run_load_mid (hb : W.heap[g]? = some (.cells old t (0, 0))) (hr : ∀ (j : Nat) (v : Value), cs[j]? = some v → old[i + j]? = some v) (hu : P.underlying ty = some d) (hd : d.isRow = true) (hi : (P.info? ty).map (·.size) = some cs.size) : (Instr.loadAt ty (.pointer (some ⟨g, i, none⟩))).run P W = .ok (.agg cs) W := by
  have := run_loadAt_mid (P := P) W g i ty cs.toList d (range_mid hb hr) hu hd (by simpa using hi)
  simpa using this
theorem run_store_mid (hb : W.heap[g]? = some (.cells old t (0, 0))) (hs : i + cs.size ≤ old.size) (hi : (P.info? ty).map (·.size) = some cs.size) (h1 : cs.all (·.oneCell') = true) : (Instr.storeAt ty (.pointer (some ⟨g, i, none⟩)) (.agg cs)).run P W = .ok () (setL W g i cs.toList) := by
  rw [← setCells_setL]
  exact run_storeAt_mid W g i ty cs (there_mid hb hs) hi h1
/-- What a store of a struct amid a block leaves: the block is new then. -/
theorem stored_mid (hb : W.heap[g]? = some (.cells old t (0, 0))) {new : Array Value} (hn : setA old i cs.toList = new) : Stored W g t new (setL W g i cs.toList) :=
  ⟨by rw [← hn]; exact setL_blk cs.toList W i old hb, fun g' o hg h => setL_far hg cs.toList W i h, fun B w hB h => setL_below hB cs.toList W i h, fun hok h => setL_R hok cs.toList W i h⟩
theorem load_mid_ev (hgd : o.guard = none) (ty : TypeId) (x : Operand) (ho : o.op = .load ty x) (hx : a.eval x = .pointer (some ⟨g, i, none⟩)) (hb : W.heap[g]? = some (.cells old t (0, 0))) (hr : ∀ (j : Nat) (v : Value), cs[j]? = some v → old[i + j]? = some v) (hu : P.underlying ty = some d) (hd : d.isRow = true) (hi : (P.info? ty).map (·.size) = some cs.size)
    (h : wpList P ops Q rest (a.put o.dst (.agg cs)) W) : wpList P ops Q (o :: rest) a W :=
  wpList_plain hgd fun K hK => by
    unfold Oper.wp execOp
    simp only [ho, hx, Sem.run_bind, run_load_mid hb hr hu hd hi, Result.andThen_ok, Sem.run_pure]
    exact hK _ _ h
theorem store_mid_ev (hgd : o.guard = none) (hN : o.dst = none) (ty : TypeId) (x y : Operand) (ho : o.op = .store ty x y) (hx : a.eval x = .pointer (some ⟨g, i, none⟩)) (hy : a.eval y = .agg cs) (hb : W.heap[g]? = some (.cells old t (0, 0))) (hs : i + cs.size ≤ old.size) (hi : (P.info? ty).map (·.size) = some cs.size) (h1 : cs.all (·.oneCell') = true) {new : Array Value} (hn : setA old i cs.toList = new)
    (h : ∀ W', Stored W g t new W' → wpList P ops Q rest a W') : wpList P ops Q (o :: rest) a W :=
  wpList_plain hgd fun K hK => by
    unfold Oper.wp execOp
    simp only [ho, hx, hy, Sem.run_bind, run_store_mid hb hs hi h1, Result.andThen_ok, Sem.run_pure]
    show K (a.put o.dst undef) _
    rw [hN]
    exact hK _ _ (h _ (stored_mid hb hn))
theorem load_mid_yields {S : World → Prop} (hw : Region.wanted o (yielded ops a.tmps) = true) (ty : TypeId) (x : Operand) (ho : o.op = .load ty x) (hx : a.eval x = .pointer (some ⟨g, i, none⟩)) (hS : ∀ w, S w → w.heap[g]? = some (.cells old t (0, 0))) (hr : ∀ (j : Nat) (v : Value), cs[j]? = some v → old[i + j]? = some v) (hu : P.underlying ty = some d) (hd : d.isRow = true) (hi : (P.info? ty).map (·.size) = some cs.size) : YieldsIf P ops S o (.agg cs) a :=
  .inl ⟨hw, fun w hw' => by
    unfold execOp
    simp only [ho, hx, Sem.run_bind, run_load_mid (hS w hw') hr hu hd hi, Result.andThen_ok, Sem.run_pure]⟩
/-- A whole block that is an array or a struct. -/
theorem load_all_ev (hgd : o.guard = none) (ty : TypeId) (x : Operand) (ho : o.op = .load ty x) (hx : a.eval x = .pointer (some ⟨g, 0, none⟩)) (hb : W.heap[g]? = some (.cells cs t (0, 0))) (hu : P.underlying ty = some d) (hd : d.isRow = true) (hi : (P.info? ty).map (·.size) = some cs.size)
    (h : wpList P ops Q rest (a.put o.dst (.agg cs)) W) : wpList P ops Q (o :: rest) a W :=
  load_mid_ev hgd ty x ho hx hb (fun j v hv => by rw [Nat.zero_add]; exact hv) hu hd hi h
theorem load_all_yields {S : World → Prop} (hw : Region.wanted o (yielded ops a.tmps) = true) (ty : TypeId) (x : Operand) (ho : o.op = .load ty x) (hx : a.eval x = .pointer (some ⟨g, 0, none⟩)) (hS : ∀ w, S w → w.heap[g]? = some (.cells cs t (0, 0))) (hu : P.underlying ty = some d) (hd : d.isRow = true) (hi : (P.info? ty).map (·.size) = some cs.size) : YieldsIf P ops S o (.agg cs) a :=
  load_mid_yields hw ty x ho hx hS (fun j v hv => by rw [Nat.zero_add]; exact hv) hu hd hi
theorem store_mid_step (hw : Region.wanted o (yielded ops a.tmps) = true) (hN : o.dst = none) (ty : TypeId) (x y : Operand) (ho : o.op = .store ty x y) (hx : a.eval x = .pointer (some ⟨g, i, none⟩)) (hy : a.eval y = .agg cs) (hb : W.heap[g]? = some (.cells old t (0, 0))) (hs : i + cs.size ≤ old.size) (hi : (P.info? ty).map (·.size) = some cs.size) (h1 : cs.all (·.oneCell') = true) {new : Array Value} (hn : setA old i cs.toList = new)
    (h : ∀ W', Stored W g t new W' → K a W') : if Region.wanted o (yielded ops a.tmps) = true then Oper.wp P o a W K Q else K (a.put none undef) W := by
  refine skip_ (w1 := setL W g i cs.toList) hw hN ?_ (h _ (stored_mid hb hn))
  unfold execOp
  simp only [ho, hx, hy, Sem.run_bind, run_store_mid hb hs hi h1, Result.andThen_ok, Sem.run_pure]
end
/-- The rectangles of the four subbands, so far n. -/
def bandsC (x0 y0 x1 y1 : Int) : Nat → Array Value
  | 0 => #[.int .i64 0, .int .i64 0, .int .i64 0, .int .i64 0, .int .i64 0, .int .i64 0, .int .i64 0, .int .i64 0, .int .i64 0, .int .i64 0, .int .i64 0, .int .i64 0, .int .i64 0, .int .i64 0, .int .i64 0, .int .i64 0]
  | 1 => #[.int .i64 (wrap64 (Int.tdiv (wrap64 (x0 + 1)) 2)), .int .i64 (wrap64 (Int.tdiv (wrap64 (y0 + 1)) 2)), .int .i64 (wrap64 (Int.tdiv (wrap64 (x1 + 1)) 2)), .int .i64 (wrap64 (Int.tdiv (wrap64 (y1 + 1)) 2)), .int .i64 0, .int .i64 0, .int .i64 0, .int .i64 0, .int .i64 0, .int .i64 0, .int .i64 0, .int .i64 0, .int .i64 0, .int .i64 0, .int .i64 0, .int .i64 0]
  | 2 => #[.int .i64 (wrap64 (Int.tdiv (wrap64 (x0 + 1)) 2)), .int .i64 (wrap64 (Int.tdiv (wrap64 (y0 + 1)) 2)), .int .i64 (wrap64 (Int.tdiv (wrap64 (x1 + 1)) 2)), .int .i64 (wrap64 (Int.tdiv (wrap64 (y1 + 1)) 2)), .int .i64 (wrap64 (Int.tdiv (wrap64 (x0 + 0)) 2)), .int .i64 (wrap64 (Int.tdiv (wrap64 (y0 + 1)) 2)), .int .i64 (wrap64 (Int.tdiv (wrap64 (x1 + 0)) 2)), .int .i64 (wrap64 (Int.tdiv (wrap64 (y1 + 1)) 2)), .int .i64 0, .int .i64 0, .int .i64 0, .int .i64 0, .int .i64 0, .int .i64 0, .int .i64 0, .int .i64 0]
  | 3 => #[.int .i64 (wrap64 (Int.tdiv (wrap64 (x0 + 1)) 2)), .int .i64 (wrap64 (Int.tdiv (wrap64 (y0 + 1)) 2)), .int .i64 (wrap64 (Int.tdiv (wrap64 (x1 + 1)) 2)), .int .i64 (wrap64 (Int.tdiv (wrap64 (y1 + 1)) 2)), .int .i64 (wrap64 (Int.tdiv (wrap64 (x0 + 0)) 2)), .int .i64 (wrap64 (Int.tdiv (wrap64 (y0 + 1)) 2)), .int .i64 (wrap64 (Int.tdiv (wrap64 (x1 + 0)) 2)), .int .i64 (wrap64 (Int.tdiv (wrap64 (y1 + 1)) 2)), .int .i64 (wrap64 (Int.tdiv (wrap64 (x0 + 1)) 2)), .int .i64 (wrap64 (Int.tdiv (wrap64 y0) 2)), .int .i64 (wrap64 (Int.tdiv (wrap64 (x1 + 1)) 2)), .int .i64 (wrap64 (Int.tdiv (wrap64 y1) 2)), .int .i64 0, .int .i64 0, .int .i64 0, .int .i64 0]
  | _ => #[.int .i64 (wrap64 (Int.tdiv (wrap64 (x0 + 1)) 2)), .int .i64 (wrap64 (Int.tdiv (wrap64 (y0 + 1)) 2)), .int .i64 (wrap64 (Int.tdiv (wrap64 (x1 + 1)) 2)), .int .i64 (wrap64 (Int.tdiv (wrap64 (y1 + 1)) 2)), .int .i64 (wrap64 (Int.tdiv (wrap64 (x0 + 0)) 2)), .int .i64 (wrap64 (Int.tdiv (wrap64 (y0 + 1)) 2)), .int .i64 (wrap64 (Int.tdiv (wrap64 (x1 + 0)) 2)), .int .i64 (wrap64 (Int.tdiv (wrap64 (y1 + 1)) 2)), .int .i64 (wrap64 (Int.tdiv (wrap64 (x0 + 1)) 2)), .int .i64 (wrap64 (Int.tdiv (wrap64 y0) 2)), .int .i64 (wrap64 (Int.tdiv (wrap64 (x1 + 1)) 2)), .int .i64 (wrap64 (Int.tdiv (wrap64 y1) 2)), .int .i64 (wrap64 (Int.tdiv (wrap64 (x0 + 0)) 2)), .int .i64 (wrap64 (Int.tdiv (wrap64 y0) 2)), .int .i64 (wrap64 (Int.tdiv (wrap64 (x1 + 0)) 2)), .int .i64 (wrap64 (Int.tdiv (wrap64 y1) 2))]
set_option maxHeartbeats 8000000 in
set_option maxRecDepth 100000 in
theorem dwt_Bands.good (x0 y0 x1 y1 : Int) (w : World) (hv : rect_Valid.f x0 y0 x1 y1 = some true) : Calls Try.prog 35 #[.agg #[.int .i64 x0, .int .i64 y0, .int .i64 x1, .int .i64 y1]] w fun e w' => e = .returned (.agg (bandsC x0 y0 x1 y1 4)) ∧ Below w.heap.size w w' := by
  have HV := Aside0.mk hv
  clear hv
  have K00 := Aside0.mk (Bks.nil w)
  go_enter Try.func35, Try.ntmps35
  go_wp2_with (first
    | ((with_reducible refine gate_dst (N := 1) rfl ?_); refine box_event ?hg (N := 1) ?hd (cs := #[.int .i64 x0, .int .i64 y0, .int .i64 x1, .int .i64 y1]) (t := 23) ?hr ?_; (case hd => rfl); (case hg => rfl); (case hr => first | (go_simp; done) | (go_simp; rfl)); intro g1 hg W1 hbox hb; have K0 := Aside0.mk (K00.out.box (Nat.le_refl _) hg hbox hb); clear hg hbox hb K00)
    | ((with_reducible refine gate_dst (N := 2) rfl ?_); refine box_event ?hg (N := 2) ?hd (cs := #[.int .i64 0, .int .i64 0, .int .i64 0, .int .i64 0, .int .i64 0, .int .i64 0, .int .i64 0, .int .i64 0, .int .i64 0, .int .i64 0, .int .i64 0, .int .i64 0, .int .i64 0, .int .i64 0, .int .i64 0, .int .i64 0]) (t := 62) ?hr ?_; (case hd => rfl); (case hg => rfl); (case hr => first | (go_simp; done) | (go_simp; rfl)); intro g2 hg W2 hbox hb; have K1 := Aside0.mk (K0.out.box (below_size K0.out.below) hg hbox hb); clear hg hbox hb K0)
    | ((with_reducible refine gate_dst (N := 3) rfl ?_); refine box_event ?hg (N := 3) ?hd (cs := #[.int .i64 0, .int .i64 0, .int .i64 0, .int .i64 0, .int .i64 0, .int .i64 0, .int .i64 0, .int .i64 0, .int .i64 0, .int .i64 0, .int .i64 0, .int .i64 0, .int .i64 0, .int .i64 0, .int .i64 0, .int .i64 0]) (t := 62) ?hr ?_; (case hd => rfl); (case hg => rfl); (case hr => first | (go_simp; done) | (go_simp; rfl)); intro g3 hg W3 hbox hb; have K := Aside0.mk (K1.out.box (below_size K1.out.below) hg hbox hb); clear hg hbox hb K1)
    | ((with_reducible refine gate_dst (N := 7) rfl ?_); refine load_ev rfl 23 (.tmp 1) rfl rfl (K.out.get 2 rfl) Try.underlying23 rfl ?_)
    | (go_at_call 31; (with_reducible refine (rect_Valid.calls x0 y0 x1 y1 true _ HV.out).mono ?_); rintro _ w4 ⟨rfl, b⟩; have K' := Aside0.mk (K.out.call (below_size K.out.below) b); clear K; have K := K'; clear K'; clear b))
  clear HV
  go_loopg [11] 4 (fun kq v11 w' => ∃ n : Nat, v11 = .int .i64 (n : Int) ∧ n + kq = 4 ∧ Aside0 (Bks w.heap.size w w' [(g3, 62, bandsC x0 y0 x1 y1 n), (g2, 62, #[.int .i64 0, .int .i64 0, .int .i64 0, .int .i64 0, .int .i64 0, .int .i64 0, .int .i64 0, .int .i64 0, .int .i64 0, .int .i64 0, .int .i64 0, .int .i64 0, .int .i64 0, .int .i64 0, .int .i64 0, .int .i64 0]), (g1, 23, #[.int .i64 x0, .int .i64 y0, .int .i64 x1, .int .i64 y1])]))
  case atStart => exact ⟨0, rfl, rfl, K⟩
  case round =>
  clear K
  obtain ⟨n, rfl, hn, K⟩ := hrel
  have hn4 : n = 0 ∨ n = 1 ∨ n = 2 ∨ n = 3 ∨ n = 4 := by omega
  rcases hn4 with rfl | rfl | rfl | rfl | rfl
  · have HK := K.out
    clear K
    have K := Aside0.mk (show Bks w.heap.size w wr [(g3, 62, #[.int .i64 0, .int .i64 0, .int .i64 0, .int .i64 0, .int .i64 0, .int .i64 0, .int .i64 0, .int .i64 0, .int .i64 0, .int .i64 0, .int .i64 0, .int .i64 0, .int .i64 0, .int .i64 0, .int .i64 0, .int .i64 0]), (g2, 62, #[.int .i64 0, .int .i64 0, .int .i64 0, .int .i64 0, .int .i64 0, .int .i64 0, .int .i64 0, .int .i64 0, .int .i64 0, .int .i64 0, .int .i64 0, .int .i64 0, .int .i64 0, .int .i64 0, .int .i64 0, .int .i64 0]), (g1, 23, #[.int .i64 x0, .int .i64 y0, .int .i64 x1, .int .i64 y1])] from HK)
    clear HK
    have f0 : wr.cell? ⟨g1, 0, none⟩ = some (.int .i64 x0) := K.out.cell 2 rfl 0 rfl
    have f1 : wr.cell? ⟨g1, 1, none⟩ = some (.int .i64 y0) := K.out.cell 2 rfl 1 rfl
    have f2 : wr.cell? ⟨g1, 2, none⟩ = some (.int .i64 x1) := K.out.cell 2 rfl 2 rfl
    have f3 : wr.cell? ⟨g1, 3, none⟩ = some (.int .i64 y1) := K.out.cell 2 rfl 3 rfl
    go_wp2_with (first
      | ((with_reducible refine gate_store (t := 23) (p := 42) (v := .tmp 41) rfl ?_); refine store_mid_ev (cs := #[.int .i64 (wrap64 (Int.tdiv (wrap64 (x0 + 1)) 2)), .int .i64 (wrap64 (Int.tdiv (wrap64 (y0 + 1)) 2)), .int .i64 (wrap64 (Int.tdiv (wrap64 (x1 + 1)) 2)), .int .i64 (wrap64 (Int.tdiv (wrap64 (y1 + 1)) 2))]) rfl rfl 23 (.tmp 42) (.tmp 41) rfl rfl (by kernel_rfl) (K.out.get 0 rfl) (Nat.le_of_ble_eq_true rfl) rfl (by first | (kernel_rfl) | (simp [Value.oneCell'])) (new := #[.int .i64 (wrap64 (Int.tdiv (wrap64 (x0 + 1)) 2)), .int .i64 (wrap64 (Int.tdiv (wrap64 (y0 + 1)) 2)), .int .i64 (wrap64 (Int.tdiv (wrap64 (x1 + 1)) 2)), .int .i64 (wrap64 (Int.tdiv (wrap64 (y1 + 1)) 2)), .int .i64 0, .int .i64 0, .int .i64 0, .int .i64 0, .int .i64 0, .int .i64 0, .int .i64 0, .int .i64 0, .int .i64 0, .int .i64 0, .int .i64 0, .int .i64 0]) rfl ?_; intro wS hs; have K' := Aside0.mk (K.out.stored 0 rfl hs); clear K; have K := K'; clear K'; clear hs))
    clear f0 f1 f2 f3
    go_roundg (3)
    case measure => omega
    case rel => exact ⟨1, rfl, by omega, K⟩
  · have HK := K.out
    clear K
    have K := Aside0.mk (show Bks w.heap.size w wr [(g3, 62, #[.int .i64 (wrap64 (Int.tdiv (wrap64 (x0 + 1)) 2)), .int .i64 (wrap64 (Int.tdiv (wrap64 (y0 + 1)) 2)), .int .i64 (wrap64 (Int.tdiv (wrap64 (x1 + 1)) 2)), .int .i64 (wrap64 (Int.tdiv (wrap64 (y1 + 1)) 2)), .int .i64 0, .int .i64 0, .int .i64 0, .int .i64 0, .int .i64 0, .int .i64 0, .int .i64 0, .int .i64 0, .int .i64 0, .int .i64 0, .int .i64 0, .int .i64 0]), (g2, 62, #[.int .i64 0, .int .i64 0, .int .i64 0, .int .i64 0, .int .i64 0, .int .i64 0, .int .i64 0, .int .i64 0, .int .i64 0, .int .i64 0, .int .i64 0, .int .i64 0, .int .i64 0, .int .i64 0, .int .i64 0, .int .i64 0]), (g1, 23, #[.int .i64 x0, .int .i64 y0, .int .i64 x1, .int .i64 y1])] from HK)
    clear HK
    have f0 : wr.cell? ⟨g1, 0, none⟩ = some (.int .i64 x0) := K.out.cell 2 rfl 0 rfl
    have f1 : wr.cell? ⟨g1, 1, none⟩ = some (.int .i64 y0) := K.out.cell 2 rfl 1 rfl
    have f2 : wr.cell? ⟨g1, 2, none⟩ = some (.int .i64 x1) := K.out.cell 2 rfl 2 rfl
    have f3 : wr.cell? ⟨g1, 3, none⟩ = some (.int .i64 y1) := K.out.cell 2 rfl 3 rfl
    go_wp2_with (first
      | ((with_reducible refine gate_store (t := 23) (p := 42) (v := .tmp 41) rfl ?_); refine store_mid_ev (cs := #[.int .i64 (wrap64 (Int.tdiv (wrap64 (x0 + 0)) 2)), .int .i64 (wrap64 (Int.tdiv (wrap64 (y0 + 1)) 2)), .int .i64 (wrap64 (Int.tdiv (wrap64 (x1 + 0)) 2)), .int .i64 (wrap64 (Int.tdiv (wrap64 (y1 + 1)) 2))]) rfl rfl 23 (.tmp 42) (.tmp 41) rfl rfl (by kernel_rfl) (K.out.get 0 rfl) (Nat.le_of_ble_eq_true rfl) rfl (by first | (kernel_rfl) | (simp [Value.oneCell'])) (new := #[.int .i64 (wrap64 (Int.tdiv (wrap64 (x0 + 1)) 2)), .int .i64 (wrap64 (Int.tdiv (wrap64 (y0 + 1)) 2)), .int .i64 (wrap64 (Int.tdiv (wrap64 (x1 + 1)) 2)), .int .i64 (wrap64 (Int.tdiv (wrap64 (y1 + 1)) 2)), .int .i64 (wrap64 (Int.tdiv (wrap64 (x0 + 0)) 2)), .int .i64 (wrap64 (Int.tdiv (wrap64 (y0 + 1)) 2)), .int .i64 (wrap64 (Int.tdiv (wrap64 (x1 + 0)) 2)), .int .i64 (wrap64 (Int.tdiv (wrap64 (y1 + 1)) 2)), .int .i64 0, .int .i64 0, .int .i64 0, .int .i64 0, .int .i64 0, .int .i64 0, .int .i64 0, .int .i64 0]) rfl ?_; intro wS hs; have K' := Aside0.mk (K.out.stored 0 rfl hs); clear K; have K := K'; clear K'; clear hs))
    clear f0 f1 f2 f3
    go_roundg (2)
    case measure => omega
    case rel => exact ⟨2, rfl, by omega, K⟩
  · have HK := K.out
    clear K
    have K := Aside0.mk (show Bks w.heap.size w wr [(g3, 62, #[.int .i64 (wrap64 (Int.tdiv (wrap64 (x0 + 1)) 2)), .int .i64 (wrap64 (Int.tdiv (wrap64 (y0 + 1)) 2)), .int .i64 (wrap64 (Int.tdiv (wrap64 (x1 + 1)) 2)), .int .i64 (wrap64 (Int.tdiv (wrap64 (y1 + 1)) 2)), .int .i64 (wrap64 (Int.tdiv (wrap64 (x0 + 0)) 2)), .int .i64 (wrap64 (Int.tdiv (wrap64 (y0 + 1)) 2)), .int .i64 (wrap64 (Int.tdiv (wrap64 (x1 + 0)) 2)), .int .i64 (wrap64 (Int.tdiv (wrap64 (y1 + 1)) 2)), .int .i64 0, .int .i64 0, .int .i64 0, .int .i64 0, .int .i64 0, .int .i64 0, .int .i64 0, .int .i64 0]), (g2, 62, #[.int .i64 0, .int .i64 0, .int .i64 0, .int .i64 0, .int .i64 0, .int .i64 0, .int .i64 0, .int .i64 0, .int .i64 0, .int .i64 0, .int .i64 0, .int .i64 0, .int .i64 0, .int .i64 0, .int .i64 0, .int .i64 0]), (g1, 23, #[.int .i64 x0, .int .i64 y0, .int .i64 x1, .int .i64 y1])] from HK)
    clear HK
    have f0 : wr.cell? ⟨g1, 0, none⟩ = some (.int .i64 x0) := K.out.cell 2 rfl 0 rfl
    have f1 : wr.cell? ⟨g1, 1, none⟩ = some (.int .i64 y0) := K.out.cell 2 rfl 1 rfl
    have f2 : wr.cell? ⟨g1, 2, none⟩ = some (.int .i64 x1) := K.out.cell 2 rfl 2 rfl
    have f3 : wr.cell? ⟨g1, 3, none⟩ = some (.int .i64 y1) := K.out.cell 2 rfl 3 rfl
    go_wp2_with (first
      | ((with_reducible refine gate_store (t := 23) (p := 42) (v := .tmp 41) rfl ?_); refine store_mid_ev (cs := #[.int .i64 (wrap64 (Int.tdiv (wrap64 (x0 + 1)) 2)), .int .i64 (wrap64 (Int.tdiv (wrap64 y0) 2)), .int .i64 (wrap64 (Int.tdiv (wrap64 (x1 + 1)) 2)), .int .i64 (wrap64 (Int.tdiv (wrap64 y1) 2))]) rfl rfl 23 (.tmp 42) (.tmp 41) rfl rfl (by kernel_rfl) (K.out.get 0 rfl) (Nat.le_of_ble_eq_true rfl) rfl (by first | (kernel_rfl) | (simp [Value.oneCell'])) (new := #[.int .i64 (wrap64 (Int.tdiv (wrap64 (x0 + 1)) 2)), .int .i64 (wrap64 (Int.tdiv (wrap64 (y0 + 1)) 2)), .int .i64 (wrap64 (Int.tdiv (wrap64 (x1 + 1)) 2)), .int .i64 (wrap64 (Int.tdiv (wrap64 (y1 + 1)) 2)), .int .i64 (wrap64 (Int.tdiv (wrap64 (x0 + 0)) 2)), .int .i64 (wrap64 (Int.tdiv (wrap64 (y0 + 1)) 2)), .int .i64 (wrap64 (Int.tdiv (wrap64 (x1 + 0)) 2)), .int .i64 (wrap64 (Int.tdiv (wrap64 (y1 + 1)) 2)), .int .i64 (wrap64 (Int.tdiv (wrap64 (x0 + 1)) 2)), .int .i64 (wrap64 (Int.tdiv (wrap64 y0) 2)), .int .i64 (wrap64 (Int.tdiv (wrap64 (x1 + 1)) 2)), .int .i64 (wrap64 (Int.tdiv (wrap64 y1) 2)), .int .i64 0, .int .i64 0, .int .i64 0, .int .i64 0]) rfl ?_; intro wS hs; have K' := Aside0.mk (K.out.stored 0 rfl hs); clear K; have K := K'; clear K'; clear hs))
    clear f0 f1 f2 f3
    go_roundg (1)
    case measure => omega
    case rel => exact ⟨3, rfl, by omega, K⟩
  · have HK := K.out
    clear K
    have K := Aside0.mk (show Bks w.heap.size w wr [(g3, 62, #[.int .i64 (wrap64 (Int.tdiv (wrap64 (x0 + 1)) 2)), .int .i64 (wrap64 (Int.tdiv (wrap64 (y0 + 1)) 2)), .int .i64 (wrap64 (Int.tdiv (wrap64 (x1 + 1)) 2)), .int .i64 (wrap64 (Int.tdiv (wrap64 (y1 + 1)) 2)), .int .i64 (wrap64 (Int.tdiv (wrap64 (x0 + 0)) 2)), .int .i64 (wrap64 (Int.tdiv (wrap64 (y0 + 1)) 2)), .int .i64 (wrap64 (Int.tdiv (wrap64 (x1 + 0)) 2)), .int .i64 (wrap64 (Int.tdiv (wrap64 (y1 + 1)) 2)), .int .i64 (wrap64 (Int.tdiv (wrap64 (x0 + 1)) 2)), .int .i64 (wrap64 (Int.tdiv (wrap64 y0) 2)), .int .i64 (wrap64 (Int.tdiv (wrap64 (x1 + 1)) 2)), .int .i64 (wrap64 (Int.tdiv (wrap64 y1) 2)), .int .i64 0, .int .i64 0, .int .i64 0, .int .i64 0]), (g2, 62, #[.int .i64 0, .int .i64 0, .int .i64 0, .int .i64 0, .int .i64 0, .int .i64 0, .int .i64 0, .int .i64 0, .int .i64 0, .int .i64 0, .int .i64 0, .int .i64 0, .int .i64 0, .int .i64 0, .int .i64 0, .int .i64 0]), (g1, 23, #[.int .i64 x0, .int .i64 y0, .int .i64 x1, .int .i64 y1])] from HK)
    clear HK
    have f0 : wr.cell? ⟨g1, 0, none⟩ = some (.int .i64 x0) := K.out.cell 2 rfl 0 rfl
    have f1 : wr.cell? ⟨g1, 1, none⟩ = some (.int .i64 y0) := K.out.cell 2 rfl 1 rfl
    have f2 : wr.cell? ⟨g1, 2, none⟩ = some (.int .i64 x1) := K.out.cell 2 rfl 2 rfl
    have f3 : wr.cell? ⟨g1, 3, none⟩ = some (.int .i64 y1) := K.out.cell 2 rfl 3 rfl
    go_wp2_with (first
      | ((with_reducible refine gate_store (t := 23) (p := 42) (v := .tmp 41) rfl ?_); refine store_mid_ev (cs := #[.int .i64 (wrap64 (Int.tdiv (wrap64 (x0 + 0)) 2)), .int .i64 (wrap64 (Int.tdiv (wrap64 y0) 2)), .int .i64 (wrap64 (Int.tdiv (wrap64 (x1 + 0)) 2)), .int .i64 (wrap64 (Int.tdiv (wrap64 y1) 2))]) rfl rfl 23 (.tmp 42) (.tmp 41) rfl rfl (by kernel_rfl) (K.out.get 0 rfl) (Nat.le_of_ble_eq_true rfl) rfl (by first | (kernel_rfl) | (simp [Value.oneCell'])) (new := #[.int .i64 (wrap64 (Int.tdiv (wrap64 (x0 + 1)) 2)), .int .i64 (wrap64 (Int.tdiv (wrap64 (y0 + 1)) 2)), .int .i64 (wrap64 (Int.tdiv (wrap64 (x1 + 1)) 2)), .int .i64 (wrap64 (Int.tdiv (wrap64 (y1 + 1)) 2)), .int .i64 (wrap64 (Int.tdiv (wrap64 (x0 + 0)) 2)), .int .i64 (wrap64 (Int.tdiv (wrap64 (y0 + 1)) 2)), .int .i64 (wrap64 (Int.tdiv (wrap64 (x1 + 0)) 2)), .int .i64 (wrap64 (Int.tdiv (wrap64 (y1 + 1)) 2)), .int .i64 (wrap64 (Int.tdiv (wrap64 (x0 + 1)) 2)), .int .i64 (wrap64 (Int.tdiv (wrap64 y0) 2)), .int .i64 (wrap64 (Int.tdiv (wrap64 (x1 + 1)) 2)), .int .i64 (wrap64 (Int.tdiv (wrap64 y1) 2)), .int .i64 (wrap64 (Int.tdiv (wrap64 (x0 + 0)) 2)), .int .i64 (wrap64 (Int.tdiv (wrap64 y0) 2)), .int .i64 (wrap64 (Int.tdiv (wrap64 (x1 + 0)) 2)), .int .i64 (wrap64 (Int.tdiv (wrap64 y1) 2))]) rfl ?_; intro wS hs; have K' := Aside0.mk (K.out.stored 0 rfl hs); clear K; have K := K'; clear K'; clear hs))
    clear f0 f1 f2 f3
    go_roundg (0)
    case measure => omega
    case rel => exact ⟨4, rfl, by omega, K⟩
  · have HK := K.out
    clear K
    have K7 := Aside0.mk (show Bks w.heap.size w wr [(g3, 62, #[.int .i64 (wrap64 (Int.tdiv (wrap64 (x0 + 1)) 2)), .int .i64 (wrap64 (Int.tdiv (wrap64 (y0 + 1)) 2)), .int .i64 (wrap64 (Int.tdiv (wrap64 (x1 + 1)) 2)), .int .i64 (wrap64 (Int.tdiv (wrap64 (y1 + 1)) 2)), .int .i64 (wrap64 (Int.tdiv (wrap64 (x0 + 0)) 2)), .int .i64 (wrap64 (Int.tdiv (wrap64 (y0 + 1)) 2)), .int .i64 (wrap64 (Int.tdiv (wrap64 (x1 + 0)) 2)), .int .i64 (wrap64 (Int.tdiv (wrap64 (y1 + 1)) 2)), .int .i64 (wrap64 (Int.tdiv (wrap64 (x0 + 1)) 2)), .int .i64 (wrap64 (Int.tdiv (wrap64 y0) 2)), .int .i64 (wrap64 (Int.tdiv (wrap64 (x1 + 1)) 2)), .int .i64 (wrap64 (Int.tdiv (wrap64 y1) 2)), .int .i64 (wrap64 (Int.tdiv (wrap64 (x0 + 0)) 2)), .int .i64 (wrap64 (Int.tdiv (wrap64 y0) 2)), .int .i64 (wrap64 (Int.tdiv (wrap64 (x1 + 0)) 2)), .int .i64 (wrap64 (Int.tdiv (wrap64 y1) 2))]), (g2, 62, #[.int .i64 0, .int .i64 0, .int .i64 0, .int .i64 0, .int .i64 0, .int .i64 0, .int .i64 0, .int .i64 0, .int .i64 0, .int .i64 0, .int .i64 0, .int .i64 0, .int .i64 0, .int .i64 0, .int .i64 0, .int .i64 0]), (g1, 23, #[.int .i64 x0, .int .i64 y0, .int .i64 x1, .int .i64 y1])] from HK)
    clear HK
    go_wp2_with (first
      | ((with_reducible refine gate_dst (N := 44) rfl ?_); refine load_all_ev rfl 62 (.tmp 3) rfl rfl (K7.out.get 0 rfl) Try.underlying62 rfl rfl ?_)
      | ((with_reducible refine gate_store (t := 62) (p := 2) (v := .tmp 44) rfl ?_); refine store_ev rfl rfl 62 (.tmp 2) (.tmp 44) rfl rfl rfl (K7.out.get 1 rfl) rfl rfl (by first | (kernel_rfl) | (simp [Value.oneCell'])) ?_; intro W8 hs; have K7' := Aside0.mk (K7.out.stored 1 rfl hs); clear K7; have K7 := K7'; clear K7'; clear hs))
    refine bodyPost_ret (results_single rfl (.cell g2 62 _ (0, 0) _ rfl (K7.out.get 1 rfl) Try.underlying62 rfl (by kernel_rfl) .nil)) rfl ?_
    exact ⟨rfl, K7.out.below⟩
end Go.Proofs.Ytcnpekpgghppnaa.Q

/- Blocks and rows that are held together. Printed by wip/tools of this session. -/
namespace Go.Proofs.Ytcnpekpgghppnaa.Q
open Go.RowKit Go.Proofs.YtcnpekpgghppnaaW.PrintWords Go.Proofs.YtcnpekpgghppnaaW.PrintLast Go.Proofs.YtcnpekpgghppnaaW.PrintMore
set_option linter.unusedVariables false
set_option linter.unusedSimpArgs false

/-- Blocks that are held and rows of numbers, no two in one block. -/
structure Hold (n : Nat) (w0 W : World) (l : List (Nat × Nat × Array Value)) (r : List (Value × List Int)) : Prop where
  bks : Bks n w0 W l
  off : ∀ (i j : Nat) (b : Nat × Nat × Array Value) (p : Value × List Int), l[i]? = some b → r[j]? = some p → p.1.ownBlock ≠ some b.1
  row : ∀ (i : Nat) (p : Value × List Int), r[i]? = some p → Kd.R (Kd.int .i64) 3 W n (fun k => some k = p.1.ownBlock) p.1 p.2
  apart : ∀ (i j : Nat) (p q : Value × List Int), i ≠ j → r[i]? = some p → r[j]? = some q → ∀ k, p.1.ownBlock = some k → q.1.ownBlock ≠ some k
namespace Hold
variable {n : Nat} {w0 W W' : World} {l : List (Nat × Nat × Array Value)} {r : List (Value × List Int)} {i g t : Nat} {cs : Array Value} {v : Value} {xs : List Int}
theorem nil (w : World) : Hold w.heap.size w w [] [] := ⟨Bks.nil w, fun i j b p h => by simp at h, fun i p h => by simp at h, fun i j p q _ h => by simp at h⟩
theorem below (h : Hold n w0 W l r) : Below n w0 W := h.bks.below
theorem get (h : Hold n w0 W l r) (i : Nat) (hi : l[i]? = some (g, t, cs)) : W.heap[g]? = some (.cells cs t (0, 0)) := h.bks.get i hi
theorem cell (h : Hold n w0 W l r) (i : Nat) (hi : l[i]? = some (g, t, cs)) (j : Nat) {v : Value} (hv : cs[j]? = some v) : W.cell? ⟨g, j, none⟩ = some v := h.bks.cell i hi j hv
theorem rowAt (h : Hold n w0 W l r) (i : Nat) (hi : r[i]? = some (v, xs)) : Kd.R (Kd.int .i64) 3 W n (fun k => some k = v.ownBlock) v xs := h.row i _ hi
theorem readAt {A : Option Addr} {m c : Nat} (h : Hold n w0 W l r) (i : Nat) (hi : r[i]? = some (.slice A m c, xs)) : m = xs.length ∧ m ≤ c ∧ Kd.C (Kd.int .i64) W A xs.length xs := Kd.R_reads' (h.rowAt i hi)
theorem rowNe (h : Hold n w0 W l r) {i j : Nat} {p : Value × List Int} (hi : l[i]? = some (g, t, cs)) (hj : r[j]? = some p) : p.1.ownBlock ≠ some g := h.off i j _ p hi hj
/-- All rows are kept where no own block is turned. -/
theorem moved (h : Hold n w0 W l r) (hb : Bks n w0 W' l) (hm : ∀ (i : Nat) (p : Value × List Int), r[i]? = some p → ∀ k, p.1.ownBlock = some k → W'.heap[k]? = W.heap[k]?) : Hold n w0 W' l r :=
  ⟨hb, h.off, fun i p hi => Kd.R_step (h.row i p hi) (fun k hk _ => hm i p hi k hk.symm), h.apart⟩
theorem call (h : Hold n w0 W l r) (hn : n ≤ W.heap.size) (hb : Below W.heap.size W W') : Hold n w0 W' l r :=
  ⟨h.bks.call hn hb, h.off, fun i p hi => Kd.R_below (h.row i p hi) hb, h.apart⟩
theorem drew (h : Hold n w0 W l r) : Hold n w0 W.drew l r := ⟨h.bks.drew, h.off, fun i p hi => Kd.R_drew (h.row i p hi), h.apart⟩
theorem box (h : Hold n w0 W l r) (hn : n ≤ W.heap.size) (hg : g = W.heap.size) (hbox : W'.heap[g]? = some (.cells cs t (0, 0))) (hb : Below W.heap.size W W') (_ht : True) : Hold n w0 W' ((g, t, cs) :: l) r :=
  ⟨h.bks.box hn hg hbox hb, fun i j b p hi hj => by
    cases i with
    | zero => obtain rfl : (g, t, cs) = b := by simpa using hi
              intro e
              have := Kd.R_lt (h.row j p hj) g e
              omega
    | succ i => exact h.off i j b p (by simpa using hi) hj, fun i p hi => Kd.R_below (h.row i p hi) hb, h.apart⟩
theorem off_set {cs' : Array Value} (h : Hold n w0 W l r) (hi : l[i]? = some (g, t, cs)) : ∀ (j m : Nat) (b : Nat × Nat × Array Value) (p : Value × List Int), (l.set i (g, t, cs'))[j]? = some b → r[m]? = some p → p.1.ownBlock ≠ some b.1 := fun j m b p hj hm => by
  rw [List.getElem?_set] at hj
  split at hj
  · split at hj
    · rw [← Option.some.inj hj]
      exact h.off i m (g, t, cs) p hi hm
    · exact absurd hj (by simp)
  · exact h.off j m b p hj hm
theorem into (h : Hold n w0 W l r) (hi : l[i]? = some (g, t, cs)) (cs' : Array Value) (h1 : W'.heap[g]? = some (.cells cs' t (0, 0))) (h2 : ∀ (g' : Nat) (o : Obj), g' ≠ g → W.heap[g']? = some o → W'.heap[g']? = some o) (h3 : Below n w0 W') : Hold n w0 W' (l.set i (g, t, cs')) r :=
  ⟨h.bks.into hi cs' h1 h2 h3, h.off_set hi, fun j p hj => Kd.R_step (h.row j p hj) (fun k hk hlt => by
    have hne : k ≠ g := fun e => h.rowNe hi hj (by rw [← hk, e])
    obtain ⟨cells, hc⟩ := Kd.R_typed (h.row j p hj) k hk.symm
    rw [hc]
    exact h2 k _ hne hc), h.apart⟩
theorem set (h : Hold n w0 W l r) (i : Nat) (hi : l[i]? = some (g, t, cs)) (j : Nat) (v : Value) {cs' : Array Value} (hcs : cs.setIfInBounds j v = cs') : Hold n w0 (W.setCell ⟨g, j, none⟩ v) (l.set i (g, t, cs')) r :=
  h.into hi cs' (blk_put (h.get i hi) j v hcs) (fun g' o hg ho => (Below.heap_setCell W ⟨g, j, none⟩ v g' hg).trans ho) (h.below.setCell (p := ⟨g, j, none⟩) (h.bks.ge i _ hi) v)
theorem stored (h : Hold n w0 W l r) (i : Nat) (hi : l[i]? = some (g, t, cs)) {cs' : Array Value} (hs : Stored W g t cs' W') : Hold n w0 W' (l.set i (g, t, cs')) r :=
  h.into hi cs' hs.blk hs.far (hs.below _ _ (h.bks.ge i _ hi) h.below)
/-- A row that is new since. -/
theorem add {ok : Nat → Prop} (h : Hold n w0 W l r) (hn : n ≤ W.heap.size) (hR : Kd.R (Kd.int .i64) 3 W' W.heap.size ok v xs) (hb : Below W.heap.size W W') : Hold n w0 W' l ((v, xs) :: r) := by
  have h' := h.call hn hb
  have lt : ∀ (j : Nat) (p : Value × List Int), r[j]? = some p → ∀ k, p.1.ownBlock = some k → k < W.heap.size := fun j p hj k hk => Kd.R_lt (h.row j p hj) k hk
  refine ⟨h'.bks, fun i j b p hi hj => ?_, fun i p hi => ?_, fun i j p q hij hi hj k hk => ?_⟩
  · cases j with
    | zero => obtain rfl : (v, xs) = p := by simpa using hj
              intro e
              have h1 := Kd.R_base hR b.1 e
              have h2 := blk_lt (h.bks.blk i b hi)
              omega
    | succ j => exact h.off i j b p hi (by simpa using hj)
  · cases i with
    | zero => obtain rfl : (v, xs) = p := by simpa using hi
              exact Kd.R_lower (Kd.R_tight rfl hR) hn
    | succ i => exact h'.row i p (by simpa using hi)
  · cases i with
    | zero => obtain rfl : (v, xs) = p := by simpa using hi
              cases j with
              | zero => exact absurd rfl hij
              | succ j => intro hq
                          have h1 := Kd.R_base hR k hk
                          have h2 := lt j q (by simpa using hj) k hq
                          omega
    | succ i => cases j with
              | zero => obtain rfl : (v, xs) = q := by simpa using hj
                        intro hq
                        have h1 := Kd.R_base hR k hq
                        have h2 := lt i p (by simpa using hi) k hk
                        omega
              | succ j => exact h.apart i j p q (fun e => hij (by rw [e])) (by simpa using hi) (by simpa using hj) k hk
/-- One row is told anew, the others and the blocks are apart from it. -/
theorem row_into {v' : Value} {xs' : List Int} (h : Hold n w0 W l r) (hi : r[i]? = some (v, xs)) (hR : Kd.R (Kd.int .i64) 3 W' n (fun _ => True) v' xs') (hB : Below n w0 W')
    (hk : ∀ k o, W.heap[k]? = some o → v.ownBlock ≠ some k → W'.heap[k]? = some o) (hat : v'.ownBlock = v.ownBlock ∨ ∃ b, v'.ownBlock = some b ∧ W.heap.size ≤ b) : Hold n w0 W' l (r.set i (v', xs')) := by
  have key : ∀ (j : Nat) (p : Value × List Int), (r.set i (v', xs'))[j]? = some p → (j = i ∧ p = (v', xs')) ∨ (j ≠ i ∧ r[j]? = some p) := by
    intro j p hj
    by_cases hji : j = i
    · subst hji
      rw [List.getElem?_set, if_pos rfl] at hj
      split at hj
      · exact .inl ⟨rfl, (Option.some.inj hj).symm⟩
      · exact absurd hj (by simp)
    · rw [List.getElem?_set, if_neg (Ne.symm hji)] at hj
      exact .inr ⟨hji, hj⟩
  have ap : ∀ (j : Nat) (p : Value × List Int), j ≠ i → r[j]? = some p → ∀ k, p.1.ownBlock = some k → v'.ownBlock ≠ some k := by
    intro j p hj hp k hk' hv
    rcases hat with e | ⟨b, e, hb⟩
    · exact h.apart j i p _ hj hp hi k hk' (e ▸ hv)
    · have h1 := Kd.R_lt (h.row j p hp) k hk'
      rw [e] at hv
      have := Option.some.inj hv
      omega
  refine ⟨⟨fun j b hj => hk _ _ (h.bks.blk j b hj) (fun e => h.rowNe (t := b.2.1) (cs := b.2.2) (show l[j]? = some (b.1, b.2.1, b.2.2) from hj) hi e), h.bks.ne, h.bks.ge, hB⟩, fun i' j b p hi' hj => ?_, fun j p hj => ?_, fun j m p q hjm hj hm k hk' => ?_⟩
  · rcases key j p hj with ⟨rfl, rfl⟩ | ⟨hne, hp⟩
    · rcases hat with e | ⟨b', e, hb⟩
      · show v'.ownBlock ≠ _
        rw [e]
        exact h.off i' j b _ hi' hi
      · show v'.ownBlock ≠ _
        rw [e]
        intro e2
        have h1 := blk_lt (h.bks.blk i' b hi')
        have := Option.some.inj e2
        omega
    · exact h.off i' j b p hi' hp
  · rcases key j p hj with ⟨rfl, rfl⟩ | ⟨hne, hp⟩
    · exact Kd.R_tight rfl hR
    · refine Kd.R_step (h.row j p hp) (fun k hk' _ => ?_)
      obtain ⟨cells, hc⟩ := Kd.R_typed (h.row j p hp) k hk'.symm
      rw [hc]
      exact hk k _ hc (h.apart j i p _ hne hp hi k hk'.symm)
  · rcases key j p hj with ⟨rfl, rfl⟩ | ⟨hne, hp⟩ <;> rcases key m q hm with ⟨rfl, rfl⟩ | ⟨hne', hq⟩
    · exact absurd rfl hjm
    · exact fun e => ap m q hne' hq k e hk'
    · exact ap j p hne hp k hk'
    · exact h.apart j m p q hjm hp hq k hk'
theorem kept {a : Nat} {xs' : List Int} {ok : Nat → Prop} (h : Hold n w0 W l r) (hi : r[i]? = some (v, xs)) (ha : v.ownBlock = some a) (hk : Kept W W' (fun k => k = a)) (hR : Kd.R (Kd.int .i64) 3 W' n ok v xs') (hB : Below n w0 W') : Hold n w0 W' l (r.set i (v, xs')) :=
  h.row_into hi (Kd.R_mono hR (fun _ _ => trivial)) hB (fun k o ho hne => blk_kept ho hk (fun e => hne (by rw [ha, e]))) (.inl rfl)
theorem grown {v' : Value} {xs' : List Int} {ok : Nat → Prop} (h : Hold n w0 W l r) (hi : r[i]? = some (v, xs)) (hR : Kd.R (Kd.int .i64) 3 W' n ok v' xs') (hB : Below n w0 W') (hg : W.grownBy W' v.ownBlock) (hat : v'.ownBlock = v.ownBlock ∨ ∃ b, v'.ownBlock = some b ∧ W.heap.size ≤ b) : Hold n w0 W' l (r.set i (v', xs')) :=
  h.row_into hi (Kd.R_mono hR (fun _ _ => trivial)) hB (fun k o ho hne => (hg.block k (blk_lt ho) (fun e => hne e.symm)).trans ho) hat
/-- Some of the rows. -/
theorem pick {r' : List (Value × List Int)} (h : Hold n w0 W l r) (idx : List Nat) (hnd : idx.Nodup) (he : r'.map some = idx.map (fun j => r[j]?)) : Hold n w0 W l r' := by
  have key : ∀ (i : Nat) (p : Value × List Int), r'[i]? = some p → ∃ j : Nat, idx[i]? = some j ∧ r[j]? = some p := by
    intro i p hi
    have h1 : (r'.map some)[i]? = some (some p) := by rw [List.getElem?_map, hi]; rfl
    rw [he, List.getElem?_map] at h1
    cases hx : idx[i]? with
    | none => rw [hx] at h1; exact absurd h1 (by simp)
    | some j => rw [hx] at h1; exact ⟨j, rfl, Option.some.inj h1⟩
  refine ⟨h.bks, fun i j b p hi hj => ?_, fun i p hi => ?_, fun i j p q hij hi hj => ?_⟩
  · obtain ⟨m, _, hm⟩ := key j p hj
    exact h.off i m b p hi hm
  · obtain ⟨j, _, hj⟩ := key i p hi
    exact h.row j p hj
  · obtain ⟨i', h1, h2⟩ := key i p hi
    obtain ⟨j', h3, h4⟩ := key j q hj
    refine h.apart i' j' p q (fun e => hij ?_) h2 h4
    subst e
    obtain ⟨hi1, e1⟩ := List.getElem?_eq_some_iff.mp h1
    obtain ⟨hj1, e2⟩ := List.getElem?_eq_some_iff.mp h3
    exact List.getElem_inj hnd |>.mp (e1.trans e2.symm)
theorem tl {x : Nat × Nat × Array Value} (h : Hold n w0 W (x :: l) r) : Hold n w0 W l r := ⟨h.bks.tl, fun i j b p hi hj => h.off (i + 1) j b p (by simpa using hi) hj, h.row, h.apart⟩
theorem noBlk (h : Hold n w0 W l r) : Hold n w0 W [] r := ⟨⟨fun i b h => by simp at h, fun i j b c _ h => by simp at h, fun i b h => by simp at h, h.below⟩, fun i j b p h => by simp at h, h.row, h.apart⟩
/-- What a call made is held beside what was. -/
theorem join {r' : List (Value × List Int)} (h : Hold n w0 W l r) (hn : n ≤ W.heap.size) (h' : Hold W.heap.size W W' [] r') : Hold n w0 W' l (r' ++ r) := by
  have hc := h.call hn h'.below
  have cut : ∀ (i : Nat) (p : Value × List Int), (r' ++ r)[i]? = some p → (i < r'.length ∧ r'[i]? = some p) ∨ (r'.length ≤ i ∧ r[i - r'.length]? = some p) := by
    intro i p hi
    by_cases hlt : i < r'.length
    · rw [List.getElem?_append_left hlt] at hi
      exact .inl ⟨hlt, hi⟩
    · rw [List.getElem?_append_right (by omega)] at hi
      exact .inr ⟨by omega, hi⟩
  refine ⟨hc.bks, fun i j b p hi hj => ?_, fun i p hi => ?_, fun i j p q hij hi hj k hk => ?_⟩
  · rcases cut j p hj with ⟨_, hp⟩ | ⟨_, hp⟩
    · intro e
      have h1 := Kd.R_base (h'.row j p hp) b.1 e
      have h2 := blk_lt (h.bks.blk i b hi)
      omega
    · exact h.off i _ b p hi hp
  · rcases cut i p hi with ⟨_, hp⟩ | ⟨_, hp⟩
    · exact Kd.R_lower (h'.row i p hp) hn
    · exact hc.row _ p hp
  · rcases cut i p hi with ⟨h1, hp⟩ | ⟨h1, hp⟩ <;> rcases cut j q hj with ⟨h2, hq⟩ | ⟨h2, hq⟩
    · exact h'.apart i j p q hij hp hq k hk
    · intro e
      have := Kd.R_base (h'.row i p hp) k hk
      have := Kd.R_lt (h.row _ q hq) k e
      omega
    · intro e
      have := Kd.R_base (h'.row j q hq) k e
      have := Kd.R_lt (h.row _ p hp) k hk
      omega
    · exact h.apart _ _ p q (by omega) hp hq k hk
/-- Two new rows of a call. -/
theorem size (h : Hold n w0 W l r) (hn : n = w0.heap.size) : n ≤ W.heap.size := by
  subst hn
  exact below_size h.below
end Hold
set_option maxHeartbeats 8000000 in
set_option maxRecDepth 100000 in
theorem setColumn_none (g o : Nat) (x0 x1 : Int) (x : Int) (A : Option Addr) (cc : Nat) (w : World)
    (hce : w.cell? ⟨g, o, none⟩ = some (.int .i64 x0) ∧ w.cell? ⟨g, o + 2, none⟩ = some (.int .i64 x1)) :
    Calls Try.prog 63 #[.pointer (some ⟨g, o, none⟩), .int .i64 x, .slice A 0 cc] w fun e w' => e = .returned (.tuple #[]) ∧ w' = w.drew := by
  have HCE := Aside0.mk hce
  clear hce
  go_enter Try.func63, Try.ntmps63
  go_upto_region 0 with (fail)
  go_cut [6] (fun v6 wc => v6 = .int .i64 (wrap64 (x1 - x0)) ∧ wc = w.drew)
  case first =>
    refine start_ (n := 12) (S := fun w' => w'.cell? ⟨g, o, none⟩ = some (.int .i64 x0) ∧ w'.cell? ⟨g, o + 2, none⟩ = some (.int .i64 x1)) (ds := []) #[false, false, false, false, false, false, false, false, false, false, false, false] (by kernel_rfl) rfl rfl HCE.out (fun hHeld0 => ?_)
    generalize hw1 : w.drew = w1 at *
    clear hw1
    have hHeld := Aside0.mk hHeld0
    clear hHeld0
    refine pure_ (i := 0) (N := some 9) (v := ?_) (a' := ?_) #[true, false, false, false, false, false, false, false, false, false, false, false] rfl rfl (by kernel_rfl) (fun _ _ _ h => h) (Or.inl ⟨by rfl, ?_⟩) ?_ ?_
    rotate_left
    · intro w'
      go_simp
      with_reducible rfl
    rotate_left
    · simp only [Act.put, List.setIfInBounds_toArray, List.set_cons_zero, List.set_cons_succ, i64_w, i32_w]
      rfl
    refine pure_ (i := 1) (N := some 10) (v := ?_) (a' := ?_) #[true, true, false, false, false, false, false, false, false, false, false, false] rfl rfl (by kernel_rfl) (fun _ _ _ h => h) (Or.inl ⟨by rfl, ?_⟩) ?_ ?_
    rotate_left
    · intro w'
      go_simp
      with_reducible rfl
    rotate_left
    · simp only [Act.put, List.setIfInBounds_toArray, List.set_cons_zero, List.set_cons_succ, i64_w, i32_w]
      rfl
    refine pure_ (i := 2) (N := some 11) (v := ?_) (a' := ?_) #[true, true, true, false, false, false, false, false, false, false, false, false] rfl rfl (by kernel_rfl) (fun _ _ _ h => h) (Or.inl ⟨by rfl, ?_⟩) ?_ ?_
    rotate_left
    · intro w'
      go_simp
      with_reducible rfl
    rotate_left
    · simp only [Act.put, List.setIfInBounds_toArray, List.set_cons_zero, List.set_cons_succ, i64_w, i32_w]
      rfl
    refine pure_ (i := 3) (N := some 12) (v := ?_) (a' := ?_) #[true, true, true, true, false, false, false, false, false, false, false, false] rfl rfl (by kernel_rfl) (fun _ _ _ h => h) (Or.inl ⟨by rfl, ?_⟩) ?_ ?_
    rotate_left
    · intro w'
      go_simp
      with_reducible rfl
    rotate_left
    · simp only [Act.put, List.setIfInBounds_toArray, List.set_cons_zero, List.set_cons_succ, i64_w, i32_w]
      rfl
    refine take_ (i := 4) (N := some 13) (v := ?_) (a' := ?_) #[true, true, true, true, true, false, false, false, false, false, false, false] rfl rfl (by kernel_rfl) (fun _ _ _ h => h) (Or.inl ⟨by rfl, ?_⟩) hHeld.out ?_ ?_
    rotate_left
    · rintro w' ⟨s0, s1⟩
      go_simp
      with_reducible rfl
    rotate_left
    · simp only [Act.put, List.setIfInBounds_toArray, List.set_cons_zero, List.set_cons_succ, i64_w, i32_w]
      rfl
    refine pure_ (i := 5) (N := some 14) (v := ?_) (a' := ?_) #[true, true, true, true, true, true, false, false, false, false, false, false] rfl rfl (by kernel_rfl) (fun _ _ _ h => h) (Or.inl ⟨by rfl, ?_⟩) ?_ ?_
    rotate_left
    · intro w'
      go_simp
      with_reducible rfl
    rotate_left
    · simp only [Act.put, List.setIfInBounds_toArray, List.set_cons_zero, List.set_cons_succ, i64_w, i32_w]
      rfl
    refine pure_ (i := 6) (N := some 15) (v := ?_) (a' := ?_) #[true, true, true, true, true, true, true, false, false, false, false, false] rfl rfl (by kernel_rfl) (fun _ _ _ h => h) (Or.inl ⟨by rfl, ?_⟩) ?_ ?_
    rotate_left
    · intro w'
      go_simp
      with_reducible rfl
    rotate_left
    · simp only [Act.put, List.setIfInBounds_toArray, List.set_cons_zero, List.set_cons_succ, i64_w, i32_w]
      rfl
    refine pure_ (i := 7) (N := some 16) (v := ?_) (a' := ?_) #[true, true, true, true, true, true, true, true, false, false, false, false] rfl rfl (by kernel_rfl) (fun _ _ _ h => h) (Or.inl ⟨by rfl, ?_⟩) ?_ ?_
    rotate_left
    · intro w'
      go_simp
      with_reducible rfl
    rotate_left
    · simp only [Act.put, List.setIfInBounds_toArray, List.set_cons_zero, List.set_cons_succ, i64_w, i32_w]
      rfl
    refine pure_ (i := 8) (N := some 17) (v := ?_) (a' := ?_) #[true, true, true, true, true, true, true, true, true, false, false, false] rfl rfl (by kernel_rfl) (fun _ _ _ h => h) (Or.inl ⟨by rfl, ?_⟩) ?_ ?_
    rotate_left
    · intro w'
      go_simp
      with_reducible rfl
    rotate_left
    · simp only [Act.put, List.setIfInBounds_toArray, List.set_cons_zero, List.set_cons_succ, i64_w, i32_w]
      rfl
    refine take_ (i := 9) (N := some 18) (v := ?_) (a' := ?_) #[true, true, true, true, true, true, true, true, true, true, false, false] rfl rfl (by kernel_rfl) (fun _ _ _ h => h) (Or.inl ⟨by rfl, ?_⟩) hHeld.out ?_ ?_
    rotate_left
    · rintro w' ⟨s0, s1⟩
      go_simp
      with_reducible rfl
    rotate_left
    · simp only [Act.put, List.setIfInBounds_toArray, List.set_cons_zero, List.set_cons_succ, i64_w, i32_w]
      rfl
    refine pure_ (i := 10) (N := some 19) (v := ?_) (a' := ?_) #[true, true, true, true, true, true, true, true, true, true, true, false] rfl rfl (by kernel_rfl) (fun _ _ _ h => h) (Or.inl ⟨by rfl, ?_⟩) ?_ ?_
    rotate_left
    · intro w'
      go_simp
      with_reducible rfl
    rotate_left
    · simp only [Act.put, List.setIfInBounds_toArray, List.set_cons_zero, List.set_cons_succ, i64_w, i32_w]
      rfl
    refine pure_ (i := 11) (N := some 6) (v := ?_) (a' := ?_) #[true, true, true, true, true, true, true, true, true, true, true, true] rfl rfl (by kernel_rfl) (fun _ _ _ h => h) (Or.inl ⟨by rfl, ?_⟩) ?_ ?_
    rotate_left
    · intro w'
      go_simp
      with_reducible rfl
    rotate_left
    · simp only [Act.put, List.setIfInBounds_toArray, List.set_cons_zero, List.set_cons_succ, i64_w, i32_w]
      rfl
    refine done_ (by kernel_rfl) ?_
    clear hHeld
    go_wp2
    go_meet
    case rel => exact ⟨rfl, rfl⟩
  case rest =>
  obtain ⟨rfl, rfl⟩ := hcut
  have hb0 : decide ((0 : Int) < ((0 : Nat) : Int)) = false := rfl
  go_wp2
  go_loopg [22] 1 (fun kq v22 w' => v22 = .int .i64 0 ∧ w' = w.drew)
  case atStart => exact ⟨rfl, rfl⟩
  case round =>
  obtain ⟨rfl, rfl⟩ := hrel
  go_wp2
  go_end0
  exact ⟨rfl, rfl⟩
theorem setF_none {x x0 w : Int} {D D' : List Int} : ∀ {k : Nat}, setF x x0 w [] k 0 D = some D' → D' = D
  | 0, h => by simp [setF] at h
  | k + 1, h => by
    rw [setF.eq_2, if_neg (by simp)] at h
    exact (Option.some.inj h).symm

theorem setColumn.hold {n : Nat} {w0 w : World} {l : List (Nat × Nat × Array Value)} {r : List (Value × List Int)} {i j M g t o k cc : Nat} {okc : Nat → Prop} {cs : Array Value} {x0 x1 x : Int} {v : Value} {E E' col : List Int} {A : Option Addr}
    (H : Hold n w0 w l r) (hb : l[i]? = some (g, t, cs)) (h0 : cs[o]? = some (.int .i64 x0)) (h2 : cs[o + 2]? = some (.int .i64 x1)) (h4 : cs[o + 4]? = some v) (hj : r[j]? = some (v, E)) (hc : Kd.R (Kd.int .i64) 3 w M okc (.slice A col.length cc) col) (hM : ∀ k, v.ownBlock = some k → k < M) (h : setF x x0 (wrap64 (x1 - x0)) col k 0 E = some E') :
    Calls Try.prog 63 #[.pointer (some ⟨g, o, none⟩), .int .i64 x, .slice A col.length cc] w fun e w' => e = .returned (.tuple #[]) ∧ Hold n w0 w' l (r.set j (v, E')) ∧ Kept w w' (fun k => v.ownBlock = some k) := by
  by_cases hp : 0 < E.length
  · obtain ⟨a, c, rfl, _⟩ := Kd.R_form (H.rowAt j hj) hp
    have hga : g ≠ a := fun e => H.rowNe hb hj (by rw [e]; rfl)
    refine (dwt_setColumn.good k g o a E.length c x0 x1 E E' x A cc col n M (fun k => some k = (Value.slice (some ⟨a, 0, none⟩) E.length c).ownBlock) w0 w ⟨H.cell i hb o h0, H.cell i hb (o + 2) h2, H.cell i hb (o + 4) h4⟩ hga (H.rowAt j hj) (Kd.R_mono (Kd.R_bound hc) (fun k hk => fun e => by have h1 := hM a rfl; have h2 := hk.2.1; omega)) H.below h).mono ?_
    rintro e w' ⟨rfl, hR, hK, hB⟩
    exact ⟨rfl, H.kept hj rfl hK hR hB, hK.mono (fun k hk => by rw [hk]; rfl)⟩
  · obtain rfl : E = [] := List.eq_nil_of_length_eq_zero (by omega)
    obtain rfl : col = [] := by
      cases k with
      | zero => simp [setF] at h
      | succ k =>
        rw [setF.eq_2] at h
        split at h
        · split at h
          · split at h
            · rename_i h3
              simp at h3
              omega
            · cases h
          · cases h
        · rename_i h3
          exact List.eq_nil_of_length_eq_zero (by omega)
    obtain rfl := setF_none h
    refine (setColumn_none g o x0 x1 x A cc w ⟨H.cell i hb o h0, H.cell i hb (o + 2) h2⟩).mono ?_
    rintro e w' ⟨rfl, rfl⟩
    refine ⟨rfl, ?_⟩
    have e1 : r.set j (v, []) = r := by
      obtain ⟨hlt, e⟩ := List.getElem?_eq_some_iff.mp hj
      rw [← e]
      exact List.set_getElem_self hlt
    rw [e1]
    exact ⟨H.drew, (Kept.refl w _).drew⟩
end Go.Proofs.Ytcnpekpgghppnaa.Q

/- The columns of one half: the closure of dwt.Split. Printed by wip/tools of this session. -/
namespace Go.Proofs.Ytcnpekpgghppnaa.Q
open Go.RowKit Go.Proofs.YtcnpekpgghppnaaW.PrintWords Go.Proofs.YtcnpekpgghppnaaW.PrintLast Go.Proofs.YtcnpekpgghppnaaW.PrintMore
set_option linter.unusedVariables false
set_option linter.unusedSimpArgs false

section
variable {α : Type} {r : List α} {i j m : Nat} {a b p : α}
theorem set2_other (h : r[m]? = some p) (h1 : i ≠ m) (h2 : j ≠ m) : ((r.set i a).set j b)[m]? = some p := by rw [List.getElem?_set_ne h2, List.getElem?_set_ne h1]; exact h
theorem set_self (h : r[i]? = some p) : (r.set i a)[i]? = some a := by
  obtain ⟨hl, _⟩ := List.getElem?_eq_some_iff.mp h
  rw [List.getElem?_set, if_pos rfl, if_pos hl]
theorem set2_fst (h : r[i]? = some p) (h1 : j ≠ i) : ((r.set i a).set j b)[i]? = some a := by rw [List.getElem?_set_ne h1]; exact set_self h
theorem set2_snd (h : r[j]? = some p) (h1 : i ≠ j) : ((r.set i a).set j b)[j]? = some b := set_self (p := p) (by rw [List.getElem?_set_ne h1]; exact h)
theorem set2_again (h1 : j ≠ i) (a' : α) : ((r.set i a).set j b).set i a' = (r.set i a').set j b := by
  rw [List.set_comm b a' h1, List.set_set]
theorem set2_snd_again (b' : α) : ((r.set i a).set j b).set j b' = (r.set i a).set j b' := List.set_set ..
theorem set_same (h : r[i]? = some a) : r.set i a = r := by
  obtain ⟨hl, e⟩ := List.getElem?_eq_some_iff.mp h
  rw [← e]
  exact List.set_getElem_self hl
end
/-- What the closure makes of the columns of a half, from the x-th on. -/
def colsF (kk : Int) (k : Nat) (x0 x1 y0 : Int) (D : List Int) : Nat → Int → List Int → List Int → Option (List Int × List Int)
  | 0, _, _, _ => none
  | f + 1, x, E1, E2 => if x < x1 then (colF (x1 - x0) D k (x - x0) []).bind fun col => if lift_bounded.f k col 281474976710656 = some true ∧ col.length ≤ 4096 then (fwdF kk k y0 col).bind fun p => (setF x x0 (wrap64 (x1 - x0)) p.1 k 0 E1).bind fun F1 => (setF x x0 (wrap64 (x1 - x0)) p.2 k 0 E2).bind fun F2 => colsF kk k x0 x1 y0 D f (x + 1) F1 F2 else none else some (E1, E2)
set_option maxHeartbeats 8000000 in
set_option maxRecDepth 100000 in
theorem dwt_Split1_0.good (k ks : Nat) (kk x0 y0 x1 y1 : Int) (A : Option Addr) (c : Nat) (D E1 E2 F1 F2 : List Int) (v1 v2 : Value) (n : Nat) (w0 w : World) (l : List (Nat × Nat × Array Value)) (r : List (Value × List Int)) (ih ir ik io gh gr gkn go jh j1 j2 : Nat) (hcs rcs ocs : Array Value)
    (H : Hold n w0 w l r) (hn : n = w0.heap.size)
    (lh : l[ih]? = some (gh, 78, hcs)) (hh : ∀ (j : Nat) (v : Value), (#[.int .i64 x0, .int .i64 y0, .int .i64 x1, .int .i64 y1, .slice A D.length c] : Array Value)[j]? = some v → hcs[0 + j]? = some v)
    (lr : l[ir]? = some (gr, 23, rcs)) (rc : rcs[1]? = some (.int .i64 y0)) (lk : l[ik]? = some (gkn, 28, #[.int .i64 kk])) (lo : l[io]? = some (go, 59, ocs))
    (o1 : ocs[0]? = some (.int .i64 x0) ∧ ocs[0+2]? = some (.int .i64 x1) ∧ ocs[0+4]? = some v1) (o2 : ocs[10]? = some (.int .i64 x0) ∧ ocs[10+2]? = some (.int .i64 x1) ∧ ocs[10+4]? = some v2)
    (rh : r[jh]? = some (.slice A D.length c, D)) (r1 : r[j1]? = some (v1, E1)) (r2 : r[j2]? = some (v2, E2)) (hj : j1 ≠ jh ∧ j2 ≠ jh ∧ j1 ≠ j2)
    (hv : PV x0 y0 x1 y1 D) (hk1 : 1 ≤ kk) (hk3 : kk ≤ 3) (h : colsF kk ks x0 x1 y0 D k x0 E1 E2 = some (F1, F2)) :
    Calls Try.prog 61 #[.int .i64 0, .pointer (some ⟨gh, 0, none⟩), .pointer (some ⟨gr, 0, none⟩), .pointer (some ⟨gkn, 0, none⟩), .pointer (some ⟨go, 0, none⟩)] w fun e w' => e = .returned (.int .i64 0) ∧ Hold n w0 w' l ((r.set j1 (v1, F1)).set j2 (v2, F2)) := by
  have HX := Aside0.mk h
  have HPV := Aside0.mk hv
  have HKK := Aside0.mk (And.intro hk1 hk3)
  have HJ := Aside0.mk hj
  have LH := Aside0.mk lh
  have HH := Aside0.mk hh
  have LR := Aside0.mk lr
  have RC := Aside0.mk rc
  have LK := Aside0.mk lk
  have LO := Aside0.mk lo
  have LO1 := Aside0.mk (fun X : Nat × Nat × Array Value => (show (X :: l)[io + 1]? = some (go, 59, ocs) from lo))
  have O1 := Aside0.mk o1
  have O2 := Aside0.mk o2
  have RH := Aside0.mk rh
  have R1 := Aside0.mk r1
  have R2 := Aside0.mk r2
  have HN := Aside0.mk hn
  have K0 := Aside0.mk H
  have HX01 := Aside0.mk hv.1
  have HY01 := Aside0.mk hv.2.1
  clear h hv hk1 hk3 hj lh hh lr rc lk lo o1 o2 rh r1 r2 H hn
  go_enter Try.func61, Try.ntmps61
  go_wp2_with (first
    | ((with_reducible refine gate_dst (N := 16) rfl ?_); refine load_mid_ev (cs := #[.int .i64 x0, .int .i64 y0, .int .i64 x1, .int .i64 y1, .slice A D.length c]) rfl 26 (.tmp 15) rfl rfl (K0.out.get ih LH.out) HH.out Try.underlying26 rfl rfl ?_)
    | ((with_reducible refine gate_dst (N := 7) rfl ?_); refine box_event ?hg (N := 7) ?hd (cs := #[.int .i64 0, .int .i64 0, .int .i64 0, .int .i64 0, .slice none 0 0]) (t := 26) ?hr ?_; (case hd => rfl); (case hg => rfl); (case hr => first | (go_simp; done) | (go_simp; rfl)); intro g7 hg W7 hbox hb; have K := Aside0.mk (K0.out.box (K0.out.size HN.out) hg hbox hb trivial); clear hg hbox hb K0)
    | ((with_reducible refine gate_store (t := 26) (p := 7) (v := .tmp 16) rfl ?_); refine store_ev rfl rfl 26 (.tmp 7) (.tmp 16) rfl rfl rfl (K.out.get 0 rfl) rfl rfl (by first | (kernel_rfl) | (simp [Value.oneCell'])) ?_; intro W8 hs; have K' := Aside0.mk (K.out.stored 0 rfl hs); clear K; have K := K'; clear K'; clear hs; have f0 : W8.cell? ⟨g7, 0, none⟩ = some (.int .i64 x0) := K.out.cell 0 rfl 0 rfl))
  go_loopg [8] k (fun kq v8 w' => ∃ (x : Int) (E F : List Int), v8 = .int .i64 x ∧ Aside0 (x0 ≤ x) ∧ Aside0 (colsF kk ks x0 x1 y0 D kq x E F = some (F1, F2)) ∧ Aside0 (Hold n w0 w' ((g7, 26, #[.int .i64 x0, .int .i64 y0, .int .i64 x1, .int .i64 y1, .slice A D.length c]) :: l) ((r.set j1 (v1, E)).set j2 (v2, F))))
  case atStart => exact ⟨x0, E1, E2, rfl, ⟨Int.le_refl _⟩, HX, ⟨by rw [set_same R1.out, set_same R2.out]; exact K.out⟩⟩
  case round =>
  clear HX K f0
  obtain ⟨x, E, F, rfl, HX0, HX, K⟩ := hrel
  cases gk with
  | zero => exact absurd HX.out (by simp [colsF])
  | succ kq =>
  have hs := HX.out
  clear HX
  rw [colsF.eq_2] at hs
  have f2 : wr.cell? ⟨g7, 2, none⟩ = some (.int .i64 x1) := K.out.cell 0 rfl 2 rfl
  by_cases hi : x < x1
  rotate_left
  · rw [if_neg hi] at hs
    have hb0 : decide (x < x1) = false := decide_eq_false hi
    have hs' := Option.some.inj hs
    obtain ⟨rfl, rfl⟩ := Prod.mk.inj hs'
    clear hs hs' hi
    go_wp2
    go_ret
    exact ⟨rfl, K.out.tl⟩
  rw [if_pos hi] at hs
  have hb0 : decide (x < x1) = true := decide_eq_true hi
  obtain ⟨col, hcol, hs⟩ := Option.bind_eq_some_iff.mp hs
  by_cases hbd : lift_bounded.f ks col 281474976710656 = some true ∧ col.length ≤ 4096
  rotate_left
  · rw [if_neg hbd] at hs
    cases hs
  rw [if_pos hbd] at hs
  obtain ⟨⟨lo, hi_⟩, hfw, hs⟩ := Option.bind_eq_some_iff.mp hs
  obtain ⟨G1, hg1, hs⟩ := Option.bind_eq_some_iff.mp hs
  obtain ⟨G2, hg2, hs⟩ := Option.bind_eq_some_iff.mp hs
  have HX := Aside0.mk hs
  have HCOL := Aside0.mk hcol
  have HBD := Aside0.mk hbd
  have HFW := Aside0.mk hfw
  have HG1 := Aside0.mk hg1
  have HG2 := Aside0.mk hg2
  have HXI := Aside0.mk (And.intro HX0.out hi)
  have HV1 := Aside0.mk (fun k hk => Kd.R_lt (K.out.rowAt j1 (set2_fst R1.out (Ne.symm HJ.out.2.2))) k hk)
  have HV2 := Aside0.mk (fun k hk => Kd.R_lt (K.out.rowAt j2 (set2_snd R2.out HJ.out.2.2)) k hk)
  clear hs hcol hbd hfw hg1 hg2 hi HX0
  have hwx : wrap64 (x + 1) = x + 1 := by have := HXI.out; have := HX01.out; unfold wrap64; omega
  go_wp2_with (first
    | ((with_reducible refine gate_dst (N := 28) rfl ?_); refine load_ev rfl 26 (.tmp 7) rfl rfl (K.out.get 0 rfl) Try.underlying26 rfl ?_)
    | (go_at_call 62; (with_reducible refine (plane_Column.good ks x0 y0 x1 y1 A c D x col _ (K.out.readAt jh (set2_other RH.out HJ.out.1 HJ.out.2.1)).2.2 (K.out.readAt jh (set2_other RH.out HJ.out.1 HJ.out.2.1)).2.1 HPV.out HXI.out.1 HXI.out.2 HCOL.out).mono ?_); rintro _ w9 ⟨vc, rfl, hR, b⟩; obtain ⟨Ac, cc, rfl⟩ := Kd.R_slice hR; have HC := Aside0.mk hR; have K' := Aside0.mk (K.out.call (K.out.size HN.out) b); clear K; have K := K'; clear K'; have HV1' := Aside0.mk (fun k hk => Nat.lt_of_lt_of_le (HV1.out k hk) b.size); have HV2' := Aside0.mk (fun k hk => Nat.lt_of_lt_of_le (HV2.out k hk) b.size); clear HV1 HV2; have HV1 := HV1'; have HV2 := HV2'; clear b hR f2 HV1' HV2'; have f1 : w9.cell? ⟨gr, 1, none⟩ = some (.int .i64 y0) := K.out.cell (ir + 1) LR.out 1 RC.out; have f3 : w9.cell? ⟨gkn, 0, none⟩ = some (.int .i64 kk) := K.out.cell (ik + 1) LK.out 0 rfl)
    | (go_at_call 59; (with_reducible refine (lift_Forward.good ks ks kk Ac cc col y0 lo hi_ _ (Kd.R_reads' HC.out).2.2 (Kd.R_reads' HC.out).2.1 HKK.out.1 HKK.out.2 HY01.out.1 (by have := HY01.out; omega) HBD.out.2 HBD.out.1 HFW.out).mono ?_); rintro _ wf ⟨u1, u2, rfl, hR1, hR2, b⟩; obtain ⟨Al, cl, rfl⟩ := Kd.R_slice hR1; obtain ⟨Ah, ch, rfl⟩ := Kd.R_slice hR2; have HL := Aside0.mk hR1; have HH2 := Aside0.mk hR2; have K' := Aside0.mk (K.out.call (K.out.size HN.out) b); clear K; have K := K'; clear K'; clear b hR1 hR2 f1 f3)
    | (go_at_call 63; (with_reducible refine (setColumn.hold (o := 0) (i := io + 1) (j := j1) K.out (LO1.out _) O1.out.1 O1.out.2.1 O1.out.2.2 (set2_fst R1.out (Ne.symm HJ.out.2.2)) HL.out HV1.out HG1.out).mono ?_); rintro _ wg ⟨rfl, hH, hK⟩; have HH3 := Aside0.mk (Kd.R_kept (Kd.R_bound HH2.out) hK (fun k hk hv => by have h1 := HV1.out k hv; have h2 := hk.2.1; omega)); have K' := Aside0.mk ((set2_again (Ne.symm HJ.out.2.2) _) ▸ hH); clear K; have K := K'; clear K'; clear HL HH2 hK hH)
    | (go_at_call 63; (with_reducible refine (setColumn.hold (o := 10) (i := io + 1) (j := j2) K.out (LO1.out _) O2.out.1 O2.out.2.1 O2.out.2.2 (set2_snd R2.out HJ.out.2.2) HH3.out HV2.out HG2.out).mono ?_); rintro _ wh ⟨rfl, hH, hK⟩; have K' := Aside0.mk ((set2_snd_again _) ▸ hH); clear K; have K := K'; clear K'; clear HH3 hK hH))
  go_roundg kq
  case measure => omega
  case rel => exact ⟨x + 1, G1, G2, by rw [hwx], ⟨by have := HXI.out; omega⟩, HX, K⟩
set_option maxHeartbeats 8000000 in
set_option maxRecDepth 100000 in
theorem dwt_Split1_1.good (k ks : Nat) (kk x0 y0 x1 y1 : Int) (A : Option Addr) (c : Nat) (D E1 E2 F1 F2 : List Int) (v1 v2 : Value) (n : Nat) (w0 w : World) (l : List (Nat × Nat × Array Value)) (r : List (Value × List Int)) (ih ir ik io gh gr gkn go jh j1 j2 : Nat) (hcs rcs ocs : Array Value)
    (H : Hold n w0 w l r) (hn : n = w0.heap.size)
    (lh : l[ih]? = some (gh, 78, hcs)) (hh : ∀ (j : Nat) (v : Value), (#[.int .i64 x0, .int .i64 y0, .int .i64 x1, .int .i64 y1, .slice A D.length c] : Array Value)[j]? = some v → hcs[5 + j]? = some v)
    (lr : l[ir]? = some (gr, 23, rcs)) (rc : rcs[1]? = some (.int .i64 y0)) (lk : l[ik]? = some (gkn, 28, #[.int .i64 kk])) (lo : l[io]? = some (go, 59, ocs))
    (o1 : ocs[5]? = some (.int .i64 x0) ∧ ocs[5+2]? = some (.int .i64 x1) ∧ ocs[5+4]? = some v1) (o2 : ocs[15]? = some (.int .i64 x0) ∧ ocs[15+2]? = some (.int .i64 x1) ∧ ocs[15+4]? = some v2)
    (rh : r[jh]? = some (.slice A D.length c, D)) (r1 : r[j1]? = some (v1, E1)) (r2 : r[j2]? = some (v2, E2)) (hj : j1 ≠ jh ∧ j2 ≠ jh ∧ j1 ≠ j2)
    (hv : PV x0 y0 x1 y1 D) (hk1 : 1 ≤ kk) (hk3 : kk ≤ 3) (h : colsF kk ks x0 x1 y0 D k x0 E1 E2 = some (F1, F2)) :
    Calls Try.prog 61 #[.int .i64 1, .pointer (some ⟨gh, 0, none⟩), .pointer (some ⟨gr, 0, none⟩), .pointer (some ⟨gkn, 0, none⟩), .pointer (some ⟨go, 0, none⟩)] w fun e w' => e = .returned (.int .i64 0) ∧ Hold n w0 w' l ((r.set j1 (v1, F1)).set j2 (v2, F2)) := by
  have HX := Aside0.mk h
  have HPV := Aside0.mk hv
  have HKK := Aside0.mk (And.intro hk1 hk3)
  have HJ := Aside0.mk hj
  have LH := Aside0.mk lh
  have HH := Aside0.mk hh
  have LR := Aside0.mk lr
  have RC := Aside0.mk rc
  have LK := Aside0.mk lk
  have LO := Aside0.mk lo
  have LO1 := Aside0.mk (fun X : Nat × Nat × Array Value => (show (X :: l)[io + 1]? = some (go, 59, ocs) from lo))
  have O1 := Aside0.mk o1
  have O2 := Aside0.mk o2
  have RH := Aside0.mk rh
  have R1 := Aside0.mk r1
  have R2 := Aside0.mk r2
  have HN := Aside0.mk hn
  have K0 := Aside0.mk H
  have HX01 := Aside0.mk hv.1
  have HY01 := Aside0.mk hv.2.1
  clear h hv hk1 hk3 hj lh hh lr rc lk lo o1 o2 rh r1 r2 H hn
  go_enter Try.func61, Try.ntmps61
  go_wp2_with (first
    | ((with_reducible refine gate_dst (N := 16) rfl ?_); refine load_mid_ev (cs := #[.int .i64 x0, .int .i64 y0, .int .i64 x1, .int .i64 y1, .slice A D.length c]) rfl 26 (.tmp 15) rfl rfl (K0.out.get ih LH.out) HH.out Try.underlying26 rfl rfl ?_)
    | ((with_reducible refine gate_dst (N := 7) rfl ?_); refine box_event ?hg (N := 7) ?hd (cs := #[.int .i64 0, .int .i64 0, .int .i64 0, .int .i64 0, .slice none 0 0]) (t := 26) ?hr ?_; (case hd => rfl); (case hg => rfl); (case hr => first | (go_simp; done) | (go_simp; rfl)); intro g7 hg W7 hbox hb; have K := Aside0.mk (K0.out.box (K0.out.size HN.out) hg hbox hb trivial); clear hg hbox hb K0)
    | ((with_reducible refine gate_store (t := 26) (p := 7) (v := .tmp 16) rfl ?_); refine store_ev rfl rfl 26 (.tmp 7) (.tmp 16) rfl rfl rfl (K.out.get 0 rfl) rfl rfl (by first | (kernel_rfl) | (simp [Value.oneCell'])) ?_; intro W8 hs; have K' := Aside0.mk (K.out.stored 0 rfl hs); clear K; have K := K'; clear K'; clear hs; have f0 : W8.cell? ⟨g7, 0, none⟩ = some (.int .i64 x0) := K.out.cell 0 rfl 0 rfl))
  go_loopg [8] k (fun kq v8 w' => ∃ (x : Int) (E F : List Int), v8 = .int .i64 x ∧ Aside0 (x0 ≤ x) ∧ Aside0 (colsF kk ks x0 x1 y0 D kq x E F = some (F1, F2)) ∧ Aside0 (Hold n w0 w' ((g7, 26, #[.int .i64 x0, .int .i64 y0, .int .i64 x1, .int .i64 y1, .slice A D.length c]) :: l) ((r.set j1 (v1, E)).set j2 (v2, F))))
  case atStart => exact ⟨x0, E1, E2, rfl, ⟨Int.le_refl _⟩, HX, ⟨by rw [set_same R1.out, set_same R2.out]; exact K.out⟩⟩
  case round =>
  clear HX K f0
  obtain ⟨x, E, F, rfl, HX0, HX, K⟩ := hrel
  cases gk with
  | zero => exact absurd HX.out (by simp [colsF])
  | succ kq =>
  have hs := HX.out
  clear HX
  rw [colsF.eq_2] at hs
  have f2 : wr.cell? ⟨g7, 2, none⟩ = some (.int .i64 x1) := K.out.cell 0 rfl 2 rfl
  by_cases hi : x < x1
  rotate_left
  · rw [if_neg hi] at hs
    have hb0 : decide (x < x1) = false := decide_eq_false hi
    have hs' := Option.some.inj hs
    obtain ⟨rfl, rfl⟩ := Prod.mk.inj hs'
    clear hs hs' hi
    go_wp2
    go_ret
    exact ⟨rfl, K.out.tl⟩
  rw [if_pos hi] at hs
  have hb0 : decide (x < x1) = true := decide_eq_true hi
  obtain ⟨col, hcol, hs⟩ := Option.bind_eq_some_iff.mp hs
  by_cases hbd : lift_bounded.f ks col 281474976710656 = some true ∧ col.length ≤ 4096
  rotate_left
  · rw [if_neg hbd] at hs
    cases hs
  rw [if_pos hbd] at hs
  obtain ⟨⟨lo, hi_⟩, hfw, hs⟩ := Option.bind_eq_some_iff.mp hs
  obtain ⟨G1, hg1, hs⟩ := Option.bind_eq_some_iff.mp hs
  obtain ⟨G2, hg2, hs⟩ := Option.bind_eq_some_iff.mp hs
  have HX := Aside0.mk hs
  have HCOL := Aside0.mk hcol
  have HBD := Aside0.mk hbd
  have HFW := Aside0.mk hfw
  have HG1 := Aside0.mk hg1
  have HG2 := Aside0.mk hg2
  have HXI := Aside0.mk (And.intro HX0.out hi)
  have HV1 := Aside0.mk (fun k hk => Kd.R_lt (K.out.rowAt j1 (set2_fst R1.out (Ne.symm HJ.out.2.2))) k hk)
  have HV2 := Aside0.mk (fun k hk => Kd.R_lt (K.out.rowAt j2 (set2_snd R2.out HJ.out.2.2)) k hk)
  clear hs hcol hbd hfw hg1 hg2 hi HX0
  have hwx : wrap64 (x + 1) = x + 1 := by have := HXI.out; have := HX01.out; unfold wrap64; omega
  go_wp2_with (first
    | ((with_reducible refine gate_dst (N := 28) rfl ?_); refine load_ev rfl 26 (.tmp 7) rfl rfl (K.out.get 0 rfl) Try.underlying26 rfl ?_)
    | (go_at_call 62; (with_reducible refine (plane_Column.good ks x0 y0 x1 y1 A c D x col _ (K.out.readAt jh (set2_other RH.out HJ.out.1 HJ.out.2.1)).2.2 (K.out.readAt jh (set2_other RH.out HJ.out.1 HJ.out.2.1)).2.1 HPV.out HXI.out.1 HXI.out.2 HCOL.out).mono ?_); rintro _ w9 ⟨vc, rfl, hR, b⟩; obtain ⟨Ac, cc, rfl⟩ := Kd.R_slice hR; have HC := Aside0.mk hR; have K' := Aside0.mk (K.out.call (K.out.size HN.out) b); clear K; have K := K'; clear K'; have HV1' := Aside0.mk (fun k hk => Nat.lt_of_lt_of_le (HV1.out k hk) b.size); have HV2' := Aside0.mk (fun k hk => Nat.lt_of_lt_of_le (HV2.out k hk) b.size); clear HV1 HV2; have HV1 := HV1'; have HV2 := HV2'; clear b hR f2 HV1' HV2'; have f1 : w9.cell? ⟨gr, 1, none⟩ = some (.int .i64 y0) := K.out.cell (ir + 1) LR.out 1 RC.out; have f3 : w9.cell? ⟨gkn, 0, none⟩ = some (.int .i64 kk) := K.out.cell (ik + 1) LK.out 0 rfl)
    | (go_at_call 59; (with_reducible refine (lift_Forward.good ks ks kk Ac cc col y0 lo hi_ _ (Kd.R_reads' HC.out).2.2 (Kd.R_reads' HC.out).2.1 HKK.out.1 HKK.out.2 HY01.out.1 (by have := HY01.out; omega) HBD.out.2 HBD.out.1 HFW.out).mono ?_); rintro _ wf ⟨u1, u2, rfl, hR1, hR2, b⟩; obtain ⟨Al, cl, rfl⟩ := Kd.R_slice hR1; obtain ⟨Ah, ch, rfl⟩ := Kd.R_slice hR2; have HL := Aside0.mk hR1; have HH2 := Aside0.mk hR2; have K' := Aside0.mk (K.out.call (K.out.size HN.out) b); clear K; have K := K'; clear K'; clear b hR1 hR2 f1 f3)
    | (go_at_call 63; (with_reducible refine (setColumn.hold (o := 5) (i := io + 1) (j := j1) K.out (LO1.out _) O1.out.1 O1.out.2.1 O1.out.2.2 (set2_fst R1.out (Ne.symm HJ.out.2.2)) HL.out HV1.out HG1.out).mono ?_); rintro _ wg ⟨rfl, hH, hK⟩; have HH3 := Aside0.mk (Kd.R_kept (Kd.R_bound HH2.out) hK (fun k hk hv => by have h1 := HV1.out k hv; have h2 := hk.2.1; omega)); have K' := Aside0.mk ((set2_again (Ne.symm HJ.out.2.2) _) ▸ hH); clear K; have K := K'; clear K'; clear HL HH2 hK hH)
    | (go_at_call 63; (with_reducible refine (setColumn.hold (o := 15) (i := io + 1) (j := j2) K.out (LO1.out _) O2.out.1 O2.out.2.1 O2.out.2.2 (set2_snd R2.out HJ.out.2.2) HH3.out HV2.out HG2.out).mono ?_); rintro _ wh ⟨rfl, hH, hK⟩; have K' := Aside0.mk ((set2_snd_again _) ▸ hH); clear K; have K := K'; clear K'; clear HH3 hK hH))
  go_roundg kq
  case measure => omega
  case rel => exact ⟨x + 1, G1, G2, by rw [hwx], ⟨by have := HXI.out; omega⟩, HX, K⟩
end Go.Proofs.Ytcnpekpgghppnaa.Q

namespace Go.Proofs.Ytcnpekpgghppnaa.Q
open Go.RowKit Go.Proofs.YtcnpekpgghppnaaW.PrintWords Go.Proofs.YtcnpekpgghppnaaW.PrintLast Go.Proofs.YtcnpekpgghppnaaW.PrintMore
attribute [local go_sem] max2_int min2_int max_two min_two max_three min_three max_four min_four   -- for this text's walks alone
set_option linter.unusedVariables false
set_option linter.unusedSimpArgs false

/-! ### lift_Margin: function 26 -/
def lift_Margin.j0 : Nat → Int → Bool → Option (Int)
  | 0, _, _ => none
  | k + 1, x3, x4 => if x4 = true then (some 2) else (if x3 = 3 then (some 4) else (some 0))
def lift_Margin.f (k : Nat) (a0 : Int) : Option (Int) := if a0 = 1 then (lift_Margin.j0 k a0 (a0 == 1)) else (lift_Margin.j0 k a0 (a0 == 2))
theorem lift_Margin.mono_l : ∀ k, (∀ y0 y1, LeO (lift_Margin.j0 k y0 y1) (lift_Margin.j0 (k + 1) y0 y1))
  | 0 => fun _ _ r h => by simp [lift_Margin.j0] at h
  | k + 1 => by
    have ih0 := lift_Margin.mono_l k
    · intro y0 y1
      unfold lift_Margin.j0
      repeat' first
      | (with_reducible exact ih0 _ _)
      | (with_reducible exact LeO.refl _)
      | (with_reducible exact LeO.none _)
      | (with_reducible refine LeO.ite ?_ ?_)
      | (with_reducible refine LeO.bind ?_ (fun _ => ?_))
      | exact ih0 _ _
      | exact LeO.none _
      | refine LeO.ite ?_ ?_
      | refine LeO.bind ?_ (fun _ => ?_)
theorem lift_Margin.mono : ∀ a0 k, LeO (lift_Margin.f k a0) (lift_Margin.f (k + 1) a0) := by
  intro a0 k
  have ih0 := lift_Margin.mono_l k
  unfold lift_Margin.f
  repeat' first
      | (with_reducible exact ih0 _ _)
      | (with_reducible exact LeO.refl _)
      | (with_reducible exact LeO.none _)
      | (with_reducible refine LeO.ite ?_ ?_)
      | (with_reducible refine LeO.bind ?_ (fun _ => ?_))
      | exact ih0 _ _
      | exact LeO.none _
      | refine LeO.ite ?_ ?_
      | refine LeO.bind ?_ (fun _ => ?_)
set_option maxHeartbeats 8000000 in
set_option maxRecDepth 100000 in
theorem lift_Margin.calls (k : Nat) (a0 : Int) (r : Int) (w : World) (h : lift_Margin.f k a0 = some r) :
    Calls Try.prog 26 #[.int .i64 a0] w fun e w' => e = .returned (.int .i64 r) ∧ Drawn0 w w' := by
  have H : (if a0 = 1 then (lift_Margin.j0 k a0 (a0 == 1)) else (lift_Margin.j0 k a0 (a0 == 2))) = some r := h
  clear h
  have HC2 := Aside0.mk H
  clear H
  go_enter Try.func26, Try.ntmps26
  go_upto_if 4 with (fail)
  go_cut [4] (fun v4 wc => ∃ (kq : Nat) (x4_1 : Bool), v4 = .bool x4_1 ∧ Aside0 (lift_Margin.j0 kq a0 x4_1 = some r) ∧ Aside0 (kq ≤ k) ∧ Drawn0 w wc)
  case first =>
    have H := HC2.out
    clear HC2
    by_cases c3 : a0 = 1
    · rw [if_pos c3] at H
      have c3b0 : (a0 == 1) = true := beq_iff_eq.mpr c3
      have c3b1 : (a0 != 1) = false := bne_eq_false_iff_eq.mpr c3
      clear c3
      (first | rw [c3b0] | (simp only [i64_w, i32_w]; rw [c3b0]) | skip)
      have H' := Aside0.mk H
      clear H
      go_wp2
      go_meet
      case rel => exact ⟨_, ((a0 == 1)), (by first | rfl | (simp; done) | (simp [*]; done)), H', ⟨by first | omega | exact Nat.le_refl _⟩, by repeat (first | exact Drawn0.refl _ | apply Drawn0.step)⟩
    · rw [if_neg c3] at H
      have c3b0 : (a0 == 1) = false := beq_eq_false_iff_ne.mpr c3
      have c3b1 : (a0 != 1) = true := bne_iff_ne.mpr c3
      (first | rw [c3b0] | (simp only [i64_w, i32_w]; rw [c3b0]) | skip)
      have H' := Aside0.mk H
      clear H
      go_wp2
      go_meet
      case rel => exact ⟨_, ((a0 == 2)), (by first | rfl | (simp; done) | (simp [*]; done)), H', ⟨by first | omega | exact Nat.le_refl _⟩, by repeat (first | exact Drawn0.refl _ | apply Drawn0.step)⟩
  case rest =>
    clear HC2
    try clear c2
    try clear p2
    try clear c3
    try clear c3b0
    try clear c3b1
    obtain ⟨kq, x4_1, rfl, HA, HJ1, ⟨mc1, rfl⟩⟩ := hcut
    cases kq with
    | zero => exact absurd HA.out (by simp [lift_Margin.j0])
    | succ kj1 =>
      have H := HA.out
      clear HA
      simp only [lift_Margin.j0] at H
      by_cases c4 : x4_1 = true
      · subst c4
        have H1 : (some 2) = some r := by rw [if_pos rfl] at H; exact H
        clear H
        have H := H1
        clear H1
        obtain rfl := Option.some.inj H
        go_wp2
        go_ret
        exact ⟨by first | rfl | (simp; done) | (simp [*]; done), by repeat (first | exact Drawn0.refl _ | apply Drawn0.step)⟩
      · replace c4 := Bool.eq_false_iff.mpr c4
        subst c4
        have H1 : (if a0 = 3 then (some 4) else (some 0)) = some r := by rw [if_neg (show ¬ (false = true) by decide)] at H; exact H
        clear H
        have H := H1
        clear H1
        by_cases c5 : a0 = 3
        · rw [if_pos c5] at H
          have c5b0 : (a0 == 3) = true := beq_iff_eq.mpr c5
          have c5b1 : (a0 != 3) = false := bne_eq_false_iff_eq.mpr c5
          clear c5
          obtain rfl := Option.some.inj H
          go_wp2
          go_ret
          exact ⟨by first | rfl | (simp; done) | (simp [*]; done), by repeat (first | exact Drawn0.refl _ | apply Drawn0.step)⟩
        · rw [if_neg c5] at H
          have c5b0 : (a0 == 3) = false := beq_eq_false_iff_ne.mpr c5
          have c5b1 : (a0 != 3) = true := bne_iff_ne.mpr c5
          obtain rfl := Option.some.inj H
          go_wp2
          go_ret
          exact ⟨by first | rfl | (simp; done) | (simp [*]; done), by repeat (first | exact Drawn0.refl _ | apply Drawn0.step)⟩

end Go.Proofs.Ytcnpekpgghppnaa.Q

namespace Go.Proofs.Ytcnpekpgghppnaa.Q
open Go.RowKit Go.Proofs.YtcnpekpgghppnaaW.PrintWords Go.Proofs.YtcnpekpgghppnaaW.PrintLast Go.Proofs.YtcnpekpgghppnaaW.PrintMore
attribute [local go_sem] max2_int min2_int max_two min_two max_three min_three max_four min_four   -- for this text's walks alone
set_option linter.unusedVariables false
set_option linter.unusedSimpArgs false

/-! ### dwt_known: function 56 -/
def dwt_known.f (k : Nat) (a0 : Int) : Option (Bool) := (lift_Margin.f k a0).bind fun t119 => (some (decide (t119 > 0)))
theorem dwt_known.mono : ∀ a0 k, LeO (dwt_known.f k a0) (dwt_known.f (k + 1) a0) := by
  intro a0 k
  unfold dwt_known.f
  repeat' first
      | (with_reducible exact lift_Margin.mono _ _)
      | (with_reducible exact LeO.refl _)
      | (with_reducible exact LeO.none _)
      | (with_reducible refine LeO.ite ?_ ?_)
      | (with_reducible refine LeO.bind ?_ (fun _ => ?_))
      | exact lift_Margin.mono _ _
      | exact LeO.none _
      | refine LeO.ite ?_ ?_
      | refine LeO.bind ?_ (fun _ => ?_)
set_option maxHeartbeats 8000000 in
set_option maxRecDepth 100000 in
theorem dwt_known.calls (k : Nat) (a0 : Int) (r : Bool) (w : World) (h : dwt_known.f k a0 = some r) :
    Calls Try.prog 56 #[.int .i64 a0] w fun e w' => e = .returned (.bool r) ∧ Drawn0 w w' := by
  have H : ((lift_Margin.f k a0).bind fun t119 => (some (decide (t119 > 0)))) = some r := h
  clear h
  replace H := Option.bind_eq_some_iff.mp H
  obtain ⟨t119, A20, H⟩ := H
  replace H : (some (decide (t119 > 0))) = some r := H
  have A2 := Aside0.mk A20
  clear A20
  obtain rfl := Option.some.inj H
  go_enter Try.func56, Try.ntmps56
  go_wp2_with (first | ((with_reducible refine gate_callee (f := 26) rfl ?_); refine goesL_ (some 4) rfl rfl Try.func26 (by kernel_rfl) rfl #[.int .i64 a0] rfl (by (try simp only [List.map_toArray, List.map_cons, List.map_nil]); first | done | rfl | (simp only [List.length_drop, List.length_take]; rfl)) ?_; (with_reducible refine (lift_Margin.calls k a0 t119 _ A2.out).mono ?_); rintro e w' ⟨rfl, ⟨nd, rfl⟩⟩; refine ⟨_, rfl, ?_⟩))
  go_ret
  exact ⟨by first | rfl | (simp; done) | (simp [*]; done), by repeat (first | exact Drawn0.refl _ | apply Drawn0.step)⟩

end Go.Proofs.Ytcnpekpgghppnaa.Q

namespace Go.Proofs.Ytcnpekpgghppnaa.Q
open Go.RowKit Go.Proofs.YtcnpekpgghppnaaW.PrintWords Go.Proofs.YtcnpekpgghppnaaW.PrintLast Go.Proofs.YtcnpekpgghppnaaW.PrintMore
attribute [local go_sem] max2_int min2_int max_two min_two max_three min_three max_four min_four   -- for this text's walks alone
set_option linter.unusedVariables false
set_option linter.unusedSimpArgs false

/-! ### dwt_exceeds: function 57 -/
def dwt_exceeds.l0 : Nat → Int → List Int → Int → Int → Option (Bool)
  | 0, _, _, _, _ => none
  | k + 1, x1, x7, x8, x9 => if x9 < x8 then (if 0 ≤ x9 then (if x9 < (x7.length : Int) then (if (rd x7 x9) > x1 then (some true) else (if (rd x7 x9) < (wrap64 (-x1)) then (some true) else (dwt_exceeds.l0 k x1 x7 x8 (wrap64 (x9 + 1))))) else (none)) else (none)) else (some false)
def dwt_exceeds.f (k : Nat) (l0 : List Int) (a1 : Int) : Option (Bool) := dwt_exceeds.l0 k a1 l0 (l0.length : Int) 0
theorem dwt_exceeds.mono_l : ∀ k, (∀ y0 y1 y2 y3, LeO (dwt_exceeds.l0 k y0 y1 y2 y3) (dwt_exceeds.l0 (k + 1) y0 y1 y2 y3))
  | 0 => fun _ _ _ _ r h => by simp [dwt_exceeds.l0] at h
  | k + 1 => by
    have ih0 := dwt_exceeds.mono_l k
    · intro y0 y1 y2 y3
      unfold dwt_exceeds.l0
      repeat' first
      | (with_reducible exact ih0 _ _ _ _)
      | (with_reducible exact LeO.refl _)
      | (with_reducible exact LeO.none _)
      | (with_reducible refine LeO.ite ?_ ?_)
      | (with_reducible refine LeO.bind ?_ (fun _ => ?_))
      | exact ih0 _ _ _ _
      | exact LeO.none _
      | refine LeO.ite ?_ ?_
      | refine LeO.bind ?_ (fun _ => ?_)
theorem dwt_exceeds.mono : ∀ a0 a1 k, LeO (dwt_exceeds.f k a0 a1) (dwt_exceeds.f (k + 1) a0 a1) := by
  intro a0 a1 k
  have ih0 := dwt_exceeds.mono_l k
  unfold dwt_exceeds.f
  repeat' first
      | (with_reducible exact ih0 _ _ _ _)
      | (with_reducible exact LeO.refl _)
      | (with_reducible exact LeO.none _)
      | (with_reducible refine LeO.ite ?_ ?_)
      | (with_reducible refine LeO.bind ?_ (fun _ => ?_))
      | exact ih0 _ _ _ _
      | exact LeO.none _
      | refine LeO.ite ?_ ?_
      | refine LeO.bind ?_ (fun _ => ?_)
set_option maxHeartbeats 8000000 in
set_option maxRecDepth 100000 in
theorem dwt_exceeds.calls (k : Nat) (A0 : Option Addr) (c0 : Nat) (l0 : List Int) (a1 : Int) (r : Bool) (w : World) (hr0 : Kd.C (Kd.int .i64) w A0 l0.length l0) (hc0 : l0.length ≤ c0) (h : dwt_exceeds.f k l0 a1 = some r) :
    Calls Try.prog 57 #[.slice A0 l0.length c0, .int .i64 a1] w fun e w' => e = .returned (.bool r) ∧ Drawn0 w w' := by
  have HR0 := Aside0.mk hr0
  have HC0 := Aside0.mk hc0
  clear hr0 hc0
  have H : (dwt_exceeds.l0 k a1 l0 (l0.length : Int) 0) = some r := h
  clear h
  have H' := Aside0.mk H
  clear H
  go_enter Try.func57, Try.ntmps57
  go_wp2
  go_loopg [9] k (fun kq v9 w' => ∃ (x9_1 : Int), v9 = .int .i64 x9_1 ∧ Aside0 (dwt_exceeds.l0 kq a1 l0 (l0.length : Int) x9_1 = some r) ∧ Aside0 (kq ≤ k) ∧ Drawn0 w w')
  case atStart => exact ⟨(0), (by first | rfl | (simp; done) | (simp [*]; done)), H', ⟨Nat.le_refl _⟩, by repeat (first | exact Drawn0.refl _ | apply Drawn0.step)⟩
  case round =>
    clear H'
    try clear p2
    obtain ⟨x9_1, rfl, HA, HK1, ⟨m1, rfl⟩⟩ := hrel
    cases gk with
    | zero => exact absurd HA.out (by simp [dwt_exceeds.l0])
    | succ k1 =>
      have H := HA.out
      clear HA
      simp only [dwt_exceeds.l0] at H
      by_cases c3 : x9_1 < (l0.length : Int)
      · rw [if_pos c3] at H
        have c3b0 : decide (x9_1 < (l0.length : Int)) = true := decide_eq_true c3
        clear c3
        by_cases c4 : 0 ≤ x9_1
        · rw [if_pos c4] at H
          have c4b0 : decide (0 ≤ x9_1) = true := decide_eq_true c4
          clear c4
          by_cases c5 : x9_1 < (l0.length : Int)
          · rw [if_pos c5] at H
            have c5b0 : decide (x9_1 < (l0.length : Int)) = true := decide_eq_true c5
            clear c5
            by_cases c6 : (rd l0 x9_1) > a1
            · rw [if_pos c6] at H
              have c6b0 : decide (a1 < (rd l0 x9_1)) = true := decide_eq_true c6
              clear c6
              obtain rfl := Option.some.inj H
              have p120 : 0 ≤ (x9_1 : Int) := of_decide_eq_true (by first | (with_reducible assumption) | assumption)
              have q120 : x9_1 < (l0.length : Int) := of_decide_eq_true (by first | (with_reducible assumption) | assumption)
              obtain ⟨ad120, e120, hx120_0⟩ := Kd.at_int HR0.out x9_1 p120 q120
              cases e120
              replace p120 := eq_true p120
              replace q120 := eq_true q120
              go_wp2
              go_ret
              exact ⟨by first | rfl | (simp; done) | (simp [*]; done), by repeat (first | exact Drawn0.refl _ | apply Drawn0.step)⟩
            · rw [if_neg c6] at H
              have c6b0 : decide (a1 < (rd l0 x9_1)) = false := decide_eq_false c6
              clear c6
              by_cases c7 : (rd l0 x9_1) < (wrap64 (-a1))
              · rw [if_pos c7] at H
                have c7b0 : decide ((rd l0 x9_1) < (wrap64 (-a1))) = true := decide_eq_true c7
                clear c7
                obtain rfl := Option.some.inj H
                have p120 : 0 ≤ (x9_1 : Int) := of_decide_eq_true (by first | (with_reducible assumption) | assumption)
                have q120 : x9_1 < (l0.length : Int) := of_decide_eq_true (by first | (with_reducible assumption) | assumption)
                obtain ⟨ad120, e120, hx120_0⟩ := Kd.at_int HR0.out x9_1 p120 q120
                cases e120
                replace p120 := eq_true p120
                replace q120 := eq_true q120
                go_wp2
                go_ret
                exact ⟨by first | rfl | (simp; done) | (simp [*]; done), by repeat (first | exact Drawn0.refl _ | apply Drawn0.step)⟩
              · rw [if_neg c7] at H
                have c7b0 : decide ((rd l0 x9_1) < (wrap64 (-a1))) = false := decide_eq_false c7
                clear c7
                have H' := Aside0.mk H
                clear H
                have p120 : 0 ≤ (x9_1 : Int) := of_decide_eq_true (by first | (with_reducible assumption) | assumption)
                have q120 : x9_1 < (l0.length : Int) := of_decide_eq_true (by first | (with_reducible assumption) | assumption)
                obtain ⟨ad120, e120, hx120_0⟩ := Kd.at_int HR0.out x9_1 p120 q120
                cases e120
                replace p120 := eq_true p120
                replace q120 := eq_true q120
                go_wp2
                go_roundg k1
                case measure => have := HK1.out; omega
                case rel => exact ⟨(wrap64 (x9_1 + 1)), (by first | rfl | (simp; done) | (simp [*]; done)), H', ⟨by have := HK1.out; omega⟩, by repeat (first | exact Drawn0.refl _ | apply Drawn0.step)⟩
          · rw [if_neg c5] at H
            exact absurd H (by simp)
        · rw [if_neg c4] at H
          exact absurd H (by simp)
      · rw [if_neg c3] at H
        have c3b0 : decide (x9_1 < (l0.length : Int)) = false := decide_eq_false c3
        clear c3
        obtain rfl := Option.some.inj H
        go_wp2
        go_ret
        exact ⟨by first | rfl | (simp; done) | (simp [*]; done), by repeat (first | exact Drawn0.refl _ | apply Drawn0.step)⟩

end Go.Proofs.Ytcnpekpgghppnaa.Q
