/- Texts of this session (words and printed walks, merged by wip/tools/merge.py) for the statement of the claim. -/
import Derived.Test.YtihfopblmjgfaaaMCodings1
import Derived.Test.YtihfopblmjgfaaaMCodings4
import Derived.Deep.MidRow
import Derived.Test.YtihfopblmjgfaaaMCodings3
/- The reference's Coding. Printed by wip/tools/genRCoding.py of this session. -/
namespace Go.Proofs.Ytihfopblmjgfaaa.Q
open Go.RowKit Go.Proofs.YtihfopblmjgfaaaW.PrintWords Go.Proofs.YtihfopblmjgfaaaW.PrintLast Go.Proofs.YtihfopblmjgfaaaW.PrintMore
set_option linter.unusedVariables false
set_option linter.unusedSimpArgs false
theorem ten_at (x0 x1 x2 x3 x4 x5 x6 x7 x8 x9 : Int) (i : Int) (h0 : 0 ≤ i) (h1 : i < 10) : (#[.int .i64 x0, .int .i64 x1, .int .i64 x2, .int .i64 x3, .int .i64 x4, .int .i64 x5, .int .i64 x6, .int .i64 x7, .int .i64 x8, .int .i64 x9] : Array Value)[i.toNat]? = some (.int .i64 (rd [x0, x1, x2, x3, x4, x5, x6, x7, x8, x9] i)) := by
  obtain ⟨n, rfl⟩ : ∃ n : Nat, i = n := ⟨i.toNat, by omega⟩
  have hn : n < 10 := by omega
  match n, hn with
  | 0, _ => rfl
  | 1, _ => rfl
  | 2, _ => rfl
  | 3, _ => rfl
  | 4, _ => rfl
  | 5, _ => rfl
  | 6, _ => rfl
  | 7, _ => rfl
  | 8, _ => rfl
  | 9, _ => rfl
/-- The precincts' bytes. -/
def rcB : Nat → List S89 → List Int → Int → Option (Int × List Int × Int)
  | 0, _, _, _ => none
  | k + 1, t, b, i => if i < (t.length : Int) then (if 0 ≤ i then (waveletref29_in.f (rd_T89 t i).f0 0 15).bind fun c1 => (if c1 = true then (waveletref29_in.f (rd_T89 t i).f1 0 15).bind fun c2 => (if c2 = true then (waveletref29_put.f k b (wrap64 ((rd_T89 t i).f0 + wrap64 (16 * (rd_T89 t i).f1))) 1).bind fun b' => rcB k t b' (wrap64 (i + 1)) else some (0, [], 2)) else some (0, [], 2)) else none) else some (65442, b, 0)
/-- The numbers' bytes. -/
def rcA : Nat → List S89 → List Int → List Int → Int → Option (Int × List Int × Int)
  | 0, _, _, _, _ => none
  | k + 1, t, L, b, i => if i < (L.length : Int) then (if 0 ≤ i then (waveletref29_in.f (rd L i) 0 255).bind fun c => (if c = true then (waveletref29_put.f k b (rd L i) 1).bind fun b' => rcA k t L b' (wrap64 (i + 1)) else some (0, [], 2)) else none) else rcB k t b 0
theorem rcB.mono : ∀ k t b i, LeO (rcB k t b i) (rcB (k + 1) t b i)
  | 0, _, _, _ => LeO.none _
  | k + 1, t, b, i => by
    rw [rcB.eq_2, rcB.eq_2]
    exact LeO.ite (LeO.ite (LeO.bind (LeO.refl _) fun _ => LeO.ite (LeO.bind (LeO.refl _) fun _ => LeO.ite (LeO.bind (waveletref29_put.mono _ _ _ _) fun _ => rcB.mono _ _ _ _) (LeO.refl _)) (LeO.refl _)) (LeO.refl _)) (LeO.refl _)
theorem rcA.mono : ∀ k t L b i, LeO (rcA k t L b i) (rcA (k + 1) t L b i)
  | 0, _, _, _, _ => LeO.none _
  | k + 1, t, L, b, i => by
    rw [rcA.eq_2, rcA.eq_2]
    exact LeO.ite (LeO.ite (LeO.bind (LeO.refl _) fun _ => LeO.ite (LeO.bind (waveletref29_put.mono _ _ _ _) fun _ => rcA.mono _ _ _ _ _) (LeO.refl _)) (LeO.refl _)) (rcB.mono _ _ _ _)

def waveletref29_Coding.f (k : Nat) (a0_0 : Int) (a0_1 : Int) (a0_2 : Int) (a0_3 : Int) (a0_4 : Int) (l0_5 : List (S89)) (a0_6 : Int) (a0_7 : Int) (a0_8 : Bool) (a0_9 : Bool) (a0_10 : Bool) (a0_11 : Bool) (a0_12 : Bool) (a0_13 : Bool) (a0_14 : Bool) (a0_15 : Bool) (l0_16 : List Int) (a0_17 : Int) (a0_18 : Int) : Option (Int × List Int × Int) :=
  (waveletref29_flags.f k a0_0 a0_1 a0_2 a0_3 a0_4 l0_5 a0_6 a0_7 a0_8 a0_9 a0_10 a0_11 a0_12 a0_13 a0_14 a0_15 l0_16 a0_17 a0_18).bind fun fl => rcA k l0_5 [a0_0, a0_1, a0_2, a0_3, a0_4, a0_6, a0_7, fl, a0_18, (l0_5.length : Int)] [] 0
theorem waveletref29_Coding.mono : ∀ a0 a1 a2 a3 a4 a5 a6 a7 a8 a9 a10 a11 a12 a13 a14 a15 a16 a17 a18 k, LeO (waveletref29_Coding.f k a0 a1 a2 a3 a4 a5 a6 a7 a8 a9 a10 a11 a12 a13 a14 a15 a16 a17 a18) (waveletref29_Coding.f (k + 1) a0 a1 a2 a3 a4 a5 a6 a7 a8 a9 a10 a11 a12 a13 a14 a15 a16 a17 a18) := by
  intro a0 a1 a2 a3 a4 a5 a6 a7 a8 a9 a10 a11 a12 a13 a14 a15 a16 a17 a18 k
  exact LeO.bind (waveletref29_flags.mono _ _ _ _ _ _ _ _ _ _ _ _ _ _ _ _ _ _ _ _) (fun _ => rcA.mono _ _ _ _ _)
set_option maxHeartbeats 8000000 in
set_option maxRecDepth 100000 in
theorem waveletref29_Coding.calls (k : Nat) (a0_0 : Int) (a0_1 : Int) (a0_2 : Int) (a0_3 : Int) (a0_4 : Int) (A0_5 : Option Addr) (c0_5 : Nat) (l0_5 : List (S89)) (a0_6 : Int) (a0_7 : Int) (a0_8 : Bool) (a0_9 : Bool) (a0_10 : Bool) (a0_11 : Bool) (a0_12 : Bool) (a0_13 : Bool) (a0_14 : Bool) (a0_15 : Bool) (A0_16 : Option Addr) (c0_16 : Nat) (l0_16 : List Int) (a0_17 : Int) (a0_18 : Int) (r1 : Int) (r2 : List Int) (r3 : Int) (w : World) (hr0_5 : Kd.C k89 w A0_5 l0_5.length l0_5) (hc0_5 : l0_5.length ≤ c0_5) (hr0_16 : Kd.C (Kd.int .i64) w A0_16 l0_16.length l0_16) (hc0_16 : l0_16.length ≤ c0_16) (h : waveletref29_Coding.f k a0_0 a0_1 a0_2 a0_3 a0_4 l0_5 a0_6 a0_7 a0_8 a0_9 a0_10 a0_11 a0_12 a0_13 a0_14 a0_15 l0_16 a0_17 a0_18 = some (r1, r2, r3)) :
    Calls Try.prog 34 #[.agg #[.int .i64 a0_0, .int .i64 a0_1, .int .i64 a0_2, .int .i64 a0_3, .int .i64 a0_4, .slice A0_5 l0_5.length c0_5, .int .i64 a0_6, .int .i64 a0_7, .bool a0_8, .bool a0_9, .bool a0_10, .bool a0_11, .bool a0_12, .bool a0_13, .bool a0_14, .bool a0_15, .slice A0_16 l0_16.length c0_16, .int .i64 a0_17, .int .i64 a0_18]] w fun e w' => ∃ v1_ : Value, e = .returned (.tuple #[.agg #[.int .i64 r1, v1_], .int .i64 r3]) ∧ Kd.R (Kd.int .u8) 5 w' w.heap.size (fun _ => True) v1_ r2 ∧ Below w.heap.size w w' := by
  unfold waveletref29_Coding.f at h
  obtain ⟨fl, hfl, h⟩ := Option.bind_eq_some_iff.mp h
  have H := Aside0.mk h
  have HF := Aside0.mk hfl
  have HR5 := Aside0.mk hr0_5
  have HR16 := Aside0.mk hr0_16
  have HC5 := Aside0.mk hc0_5
  have HC16 := Aside0.mk hc0_16
  clear h hfl hr0_5 hr0_16 hc0_5 hc0_16
  have K00 := Aside0.mk (Bks.nil w)
  go_enter Try.func34, Try.ntmps34
  go_wp2_with (first
    | ((with_reducible refine gate_dst (N := 1) rfl ?_); refine box_event ?hg (N := 1) ?hd (cs := #[.int .i64 a0_0, .int .i64 a0_1, .int .i64 a0_2, .int .i64 a0_3, .int .i64 a0_4, .slice A0_5 l0_5.length c0_5, .int .i64 a0_6, .int .i64 a0_7, .bool a0_8, .bool a0_9, .bool a0_10, .bool a0_11, .bool a0_12, .bool a0_13, .bool a0_14, .bool a0_15, .slice A0_16 l0_16.length c0_16, .int .i64 a0_17, .int .i64 a0_18]) (t := 55) ?hr ?_; (case hd => rfl); (case hg => rfl); (case hr => first | (go_simp; done) | (go_simp; rfl)); intro g1 hg W1 hbox hb; have K0 := Aside0.mk (K00.out.box (Nat.le_refl _) hg hbox hb); clear hg hbox hb K00)
    | ((with_reducible refine gate_dst (N := 2) rfl ?_); refine box_event ?hg (N := 2) ?hd (cs := #[.int .i64 0, .slice none 0 0]) (t := 26) ?hr ?_; (case hd => rfl); (case hg => rfl); (case hr => first | (go_simp; done) | (go_simp; rfl)); intro g2 hg W2 hbox hb; have K1 := Aside0.mk (K0.out.box (below_size K0.out.below) hg hbox hb); clear hg hbox hb K0)
    | ((with_reducible refine gate_dst (N := 8) rfl ?_); refine Kd.R_lit (Kd.int .u8) (w0 := W2) W2.heap.size 5 ?hg (N := 8) ?hd (xs := ([] : List Int)) (inner := []) (ok := fun _ => True) (okp := fun _ => True) ?hr ?hp (fun _ hk => hk) trivial (Below.refl _ _) (Nat.le_refl _) (by simp) ?_; (case hd => rfl); (case hg => rfl); (case hr => first | (go_simp; done) | (go_simp; rfl)); (case hp => exact (Reps.none _ _)); intro v1 w3 ho hb hg_ hnew_; clear hg_ hnew_; have HO := Aside0.mk ho; have HB := Aside0.mk hb; clear ho hb))
  have K2 := Aside0.mk (K1.out.call (below_size K1.out.below) HB.out)
  have HB2 := Aside0.mk (below_drew1 HB.out)
  have K3 := Aside0.mk K2.out.drew
  have HO3 := Aside0.mk (Kd.R_drew HO.out)
  clear K2 HB HO
  refine start_ (n := 23) (S := fun w' => w'.heap[g1]? = some (.cells #[.int .i64 a0_0, .int .i64 a0_1, .int .i64 a0_2, .int .i64 a0_3, .int .i64 a0_4, .slice A0_5 l0_5.length c0_5, .int .i64 a0_6, .int .i64 a0_7, .bool a0_8, .bool a0_9, .bool a0_10, .bool a0_11, .bool a0_12, .bool a0_13, .bool a0_14, .bool a0_15, .slice A0_16 l0_16.length c0_16, .int .i64 a0_17, .int .i64 a0_18] 55 (0, 0))) (ds := []) #[false, false, false, false, false, false, false, false, false, false, false, false, false, false, false, false, false, false, false, false, false, false, false] (by kernel_rfl) rfl rfl (K3.out.get 1 rfl) (fun hHeld0 => ?_)
  generalize w3.drew = w4 at *
  have hHeld := Aside0.mk hHeld0
  clear hHeld0
  refine pure_ (i := 0) (N := some 9) (v := ?_) (a' := ?_) #[true, false, false, false, false, false, false, false, false, false, false, false, false, false, false, false, false, false, false, false, false, false, false] rfl rfl (by kernel_rfl) (fun _ _ _ h => h) (Or.inl ⟨by rfl, ?_⟩) ?_ ?_
  rotate_left
  · intro w'
    go_simp
    with_reducible rfl
  rotate_left
  · simp only [Act.put, List.setIfInBounds_toArray, List.set_cons_zero, List.set_cons_succ, i64_w, i32_w]
    rfl
  refine take_ (i := 1) (N := some 10) (v := ?_) (a' := ?_) #[true, true, false, false, false, false, false, false, false, false, false, false, false, false, false, false, false, false, false, false, false, false, false] rfl rfl (by kernel_rfl) (fun _ _ _ h => h) (Or.inl ⟨by rfl, ?_⟩) hHeld.out ?_ ?_
  rotate_left
  · intro w' s0
    have s1 := blk_cell s0 0
    clear s0
    replace s1 := s1.trans rfl
    go_simp
    with_reducible rfl
  rotate_left
  · simp only [Act.put, List.setIfInBounds_toArray, List.set_cons_zero, List.set_cons_succ, i64_w, i32_w]
    rfl
  refine pure_ (i := 2) (N := some 11) (v := ?_) (a' := ?_) #[true, true, true, false, false, false, false, false, false, false, false, false, false, false, false, false, false, false, false, false, false, false, false] rfl rfl (by kernel_rfl) (fun _ _ _ h => h) (Or.inl ⟨by rfl, ?_⟩) ?_ ?_
  rotate_left
  · intro w'
    go_simp
    with_reducible rfl
  rotate_left
  · simp only [Act.put, List.setIfInBounds_toArray, List.set_cons_zero, List.set_cons_succ, i64_w, i32_w]
    rfl
  refine take_ (i := 3) (N := some 12) (v := ?_) (a' := ?_) #[true, true, true, true, false, false, false, false, false, false, false, false, false, false, false, false, false, false, false, false, false, false, false] rfl rfl (by kernel_rfl) (fun _ _ _ h => h) (Or.inl ⟨by rfl, ?_⟩) hHeld.out ?_ ?_
  rotate_left
  · intro w' s0
    have s1 := blk_cell s0 1
    clear s0
    replace s1 := s1.trans rfl
    go_simp
    with_reducible rfl
  rotate_left
  · simp only [Act.put, List.setIfInBounds_toArray, List.set_cons_zero, List.set_cons_succ, i64_w, i32_w]
    rfl
  refine pure_ (i := 4) (N := some 13) (v := ?_) (a' := ?_) #[true, true, true, true, true, false, false, false, false, false, false, false, false, false, false, false, false, false, false, false, false, false, false] rfl rfl (by kernel_rfl) (fun _ _ _ h => h) (Or.inl ⟨by rfl, ?_⟩) ?_ ?_
  rotate_left
  · intro w'
    go_simp
    with_reducible rfl
  rotate_left
  · simp only [Act.put, List.setIfInBounds_toArray, List.set_cons_zero, List.set_cons_succ, i64_w, i32_w]
    rfl
  refine take_ (i := 5) (N := some 14) (v := ?_) (a' := ?_) #[true, true, true, true, true, true, false, false, false, false, false, false, false, false, false, false, false, false, false, false, false, false, false] rfl rfl (by kernel_rfl) (fun _ _ _ h => h) (Or.inl ⟨by rfl, ?_⟩) hHeld.out ?_ ?_
  rotate_left
  · intro w' s0
    have s1 := blk_cell s0 2
    clear s0
    replace s1 := s1.trans rfl
    go_simp
    with_reducible rfl
  rotate_left
  · simp only [Act.put, List.setIfInBounds_toArray, List.set_cons_zero, List.set_cons_succ, i64_w, i32_w]
    rfl
  refine pure_ (i := 6) (N := some 15) (v := ?_) (a' := ?_) #[true, true, true, true, true, true, true, false, false, false, false, false, false, false, false, false, false, false, false, false, false, false, false] rfl rfl (by kernel_rfl) (fun _ _ _ h => h) (Or.inl ⟨by rfl, ?_⟩) ?_ ?_
  rotate_left
  · intro w'
    go_simp
    with_reducible rfl
  rotate_left
  · simp only [Act.put, List.setIfInBounds_toArray, List.set_cons_zero, List.set_cons_succ, i64_w, i32_w]
    rfl
  refine take_ (i := 7) (N := some 16) (v := ?_) (a' := ?_) #[true, true, true, true, true, true, true, true, false, false, false, false, false, false, false, false, false, false, false, false, false, false, false] rfl rfl (by kernel_rfl) (fun _ _ _ h => h) (Or.inl ⟨by rfl, ?_⟩) hHeld.out ?_ ?_
  rotate_left
  · intro w' s0
    have s1 := blk_cell s0 3
    clear s0
    replace s1 := s1.trans rfl
    go_simp
    with_reducible rfl
  rotate_left
  · simp only [Act.put, List.setIfInBounds_toArray, List.set_cons_zero, List.set_cons_succ, i64_w, i32_w]
    rfl
  refine pure_ (i := 8) (N := some 17) (v := ?_) (a' := ?_) #[true, true, true, true, true, true, true, true, true, false, false, false, false, false, false, false, false, false, false, false, false, false, false] rfl rfl (by kernel_rfl) (fun _ _ _ h => h) (Or.inl ⟨by rfl, ?_⟩) ?_ ?_
  rotate_left
  · intro w'
    go_simp
    with_reducible rfl
  rotate_left
  · simp only [Act.put, List.setIfInBounds_toArray, List.set_cons_zero, List.set_cons_succ, i64_w, i32_w]
    rfl
  refine take_ (i := 9) (N := some 18) (v := ?_) (a' := ?_) #[true, true, true, true, true, true, true, true, true, true, false, false, false, false, false, false, false, false, false, false, false, false, false] rfl rfl (by kernel_rfl) (fun _ _ _ h => h) (Or.inl ⟨by rfl, ?_⟩) hHeld.out ?_ ?_
  rotate_left
  · intro w' s0
    have s1 := blk_cell s0 4
    clear s0
    replace s1 := s1.trans rfl
    go_simp
    with_reducible rfl
  rotate_left
  · simp only [Act.put, List.setIfInBounds_toArray, List.set_cons_zero, List.set_cons_succ, i64_w, i32_w]
    rfl
  refine pure_ (i := 10) (N := some 19) (v := ?_) (a' := ?_) #[true, true, true, true, true, true, true, true, true, true, true, false, false, false, false, false, false, false, false, false, false, false, false] rfl rfl (by kernel_rfl) (fun _ _ _ h => h) (Or.inl ⟨by rfl, ?_⟩) ?_ ?_
  rotate_left
  · intro w'
    go_simp
    with_reducible rfl
  rotate_left
  · simp only [Act.put, List.setIfInBounds_toArray, List.set_cons_zero, List.set_cons_succ, i64_w, i32_w]
    rfl
  refine take_ (i := 11) (N := some 20) (v := ?_) (a' := ?_) #[true, true, true, true, true, true, true, true, true, true, true, true, false, false, false, false, false, false, false, false, false, false, false] rfl rfl (by kernel_rfl) (fun _ _ _ h => h) (Or.inl ⟨by rfl, ?_⟩) hHeld.out ?_ ?_
  rotate_left
  · intro w' s0
    have s1 := blk_cell s0 6
    clear s0
    replace s1 := s1.trans rfl
    go_simp
    with_reducible rfl
  rotate_left
  · simp only [Act.put, List.setIfInBounds_toArray, List.set_cons_zero, List.set_cons_succ, i64_w, i32_w]
    rfl
  refine pure_ (i := 12) (N := some 21) (v := ?_) (a' := ?_) #[true, true, true, true, true, true, true, true, true, true, true, true, true, false, false, false, false, false, false, false, false, false, false] rfl rfl (by kernel_rfl) (fun _ _ _ h => h) (Or.inl ⟨by rfl, ?_⟩) ?_ ?_
  rotate_left
  · intro w'
    go_simp
    with_reducible rfl
  rotate_left
  · simp only [Act.put, List.setIfInBounds_toArray, List.set_cons_zero, List.set_cons_succ, i64_w, i32_w]
    rfl
  refine take_ (i := 13) (N := some 22) (v := ?_) (a' := ?_) #[true, true, true, true, true, true, true, true, true, true, true, true, true, true, false, false, false, false, false, false, false, false, false] rfl rfl (by kernel_rfl) (fun _ _ _ h => h) (Or.inl ⟨by rfl, ?_⟩) hHeld.out ?_ ?_
  rotate_left
  · intro w' s0
    have s1 := blk_cell s0 7
    clear s0
    replace s1 := s1.trans rfl
    go_simp
    with_reducible rfl
  rotate_left
  · simp only [Act.put, List.setIfInBounds_toArray, List.set_cons_zero, List.set_cons_succ, i64_w, i32_w]
    rfl
  refine pure_ (i := 16) (N := some 25) (v := ?_) (a' := ?_) #[true, true, true, true, true, true, true, true, true, true, true, true, true, true, false, false, true, false, false, false, false, false, false] rfl rfl (by kernel_rfl) (fun _ _ _ h => h) (Or.inl ⟨by rfl, ?_⟩) ?_ ?_
  rotate_left
  · intro w'
    go_simp
    with_reducible rfl
  rotate_left
  · simp only [Act.put, List.setIfInBounds_toArray, List.set_cons_zero, List.set_cons_succ, i64_w, i32_w]
    rfl
  refine take_ (i := 17) (N := some 26) (v := ?_) (a' := ?_) #[true, true, true, true, true, true, true, true, true, true, true, true, true, true, false, false, true, true, false, false, false, false, false] rfl rfl (by kernel_rfl) (fun _ _ _ h => h) (Or.inl ⟨by rfl, ?_⟩) hHeld.out ?_ ?_
  rotate_left
  · intro w' s0
    have s1 := blk_cell s0 18
    clear s0
    replace s1 := s1.trans rfl
    go_simp
    with_reducible rfl
  rotate_left
  · simp only [Act.put, List.setIfInBounds_toArray, List.set_cons_zero, List.set_cons_succ, i64_w, i32_w]
    rfl
  refine pure_ (i := 18) (N := some 27) (v := ?_) (a' := ?_) #[true, true, true, true, true, true, true, true, true, true, true, true, true, true, false, false, true, true, true, false, false, false, false] rfl rfl (by kernel_rfl) (fun _ _ _ h => h) (Or.inl ⟨by rfl, ?_⟩) ?_ ?_
  rotate_left
  · intro w'
    go_simp
    with_reducible rfl
  rotate_left
  · simp only [Act.put, List.setIfInBounds_toArray, List.set_cons_zero, List.set_cons_succ, i64_w, i32_w]
    rfl
  refine take_ (i := 19) (N := some 28) (v := ?_) (a' := ?_) #[true, true, true, true, true, true, true, true, true, true, true, true, true, true, false, false, true, true, true, true, false, false, false] rfl rfl (by kernel_rfl) (fun _ _ _ h => h) (Or.inl ⟨by rfl, ?_⟩) hHeld.out ?_ ?_
  rotate_left
  · intro w' s0
    have s1 := blk_cell s0 5
    clear s0
    replace s1 := s1.trans rfl
    go_simp
    with_reducible rfl
  rotate_left
  · simp only [Act.put, List.setIfInBounds_toArray, List.set_cons_zero, List.set_cons_succ, i64_w, i32_w]
    rfl
  refine pure_ (i := 20) (N := some 29) (v := ?_) (a' := ?_) #[true, true, true, true, true, true, true, true, true, true, true, true, true, true, false, false, true, true, true, true, true, false, false] rfl rfl (by kernel_rfl) (fun _ _ _ h => h) (Or.inl ⟨by rfl, ?_⟩) ?_ ?_
  rotate_left
  · intro w'
    go_simp
    with_reducible rfl
  rotate_left
  · simp only [Act.put, List.setIfInBounds_toArray, List.set_cons_zero, List.set_cons_succ, i64_w, i32_w]
    rfl
  refine take_ (i := 14) (N := some 23) (v := .agg #[.int .i64 a0_0, .int .i64 a0_1, .int .i64 a0_2, .int .i64 a0_3, .int .i64 a0_4, .slice A0_5 l0_5.length c0_5, .int .i64 a0_6, .int .i64 a0_7, .bool a0_8, .bool a0_9, .bool a0_10, .bool a0_11, .bool a0_12, .bool a0_13, .bool a0_14, .bool a0_15, .slice A0_16 l0_16.length c0_16, .int .i64 a0_17, .int .i64 a0_18]) (a' := ?_) #[true, true, true, true, true, true, true, true, true, true, true, true, true, true, true, false, true, true, true, true, true, false, false] rfl rfl (by kernel_rfl) (fun _ _ _ h => h) (load_yields (by rfl) 55 (.tmp 1) rfl rfl (fun _ h => h) Try.underlying55 rfl) hHeld.out ?_ ?_
  rotate_left
  · simp only [Act.put, List.setIfInBounds_toArray, List.set_cons_zero, List.set_cons_succ, i64_w, i32_w]
    rfl
  refine one_ (i := 15) (N := some 24) #[true, true, true, true, true, true, true, true, true, true, true, true, true, true, true, true, true, true, true, true, true, false, false] rfl rfl (by kernel_rfl) (by decide) (fun K hK => ?_)
  refine goes_ Try.func57 (by kernel_rfl) rfl #[.agg #[.int .i64 a0_0, .int .i64 a0_1, .int .i64 a0_2, .int .i64 a0_3, .int .i64 a0_4, .slice A0_5 l0_5.length c0_5, .int .i64 a0_6, .int .i64 a0_7, .bool a0_8, .bool a0_9, .bool a0_10, .bool a0_11, .bool a0_12, .bool a0_13, .bool a0_14, .bool a0_15, .slice A0_16 l0_16.length c0_16, .int .i64 a0_17, .int .i64 a0_18]] (by rfl) rfl rfl (by simp only [List.map_toArray, List.map_cons, List.map_nil]; rfl) ?_
  refine (waveletref29_flags.calls k a0_0 a0_1 a0_2 a0_3 a0_4 A0_5 c0_5 l0_5 a0_6 a0_7 a0_8 a0_9 a0_10 a0_11 a0_12 a0_13 a0_14 a0_15 A0_16 c0_16 l0_16 a0_17 a0_18 fl _ (Kd.C_below HR5.out K3.out.below) HC5.out (Kd.C_below HR16.out K3.out.below) HC16.out HF.out).mono ?_
  rintro _ w5 ⟨rfl, b⟩
  refine ⟨_, rfl, ?_⟩
  have K4 := Aside0.mk (K3.out.call (below_size K3.out.below) b)
  have HB4 := Aside0.mk (HB2.out.trans (b.mono HB2.out.size))
  have HO4 := Aside0.mk (Kd.R_below HO3.out b)
  clear K3 HB2 HO3 b
  refine hK.out _ _ (K4.out.get 1 rfl) (fun hHeld => ?_)
  clear hK K
  refine norm_ (a' := ?_) ?_ ?_
  rotate_left
  · show Act.put _ (some 24) _ = _
    simp only [Act.put, List.setIfInBounds_toArray, List.set_cons_zero, List.set_cons_succ, i64_w, i32_w]
    rfl
  refine one_ (i := 21) (N := some 30) #[true, true, true, true, true, true, true, true, true, true, true, true, true, true, true, true, true, true, true, true, true, true, false] rfl rfl (by kernel_rfl) (by decide) (fun K hK => ?_)
  refine value_ (w1 := ?_) (v := ?_) (by rfl) rfl ?_ ?_
  rotate_left 2
  · go_simp
    constructor
    · rfl
    · rfl
  refine hK.out _ _ (blk_alloc (K4.out.get 1 rfl) _) (fun hHeld => ?_)
  clear hK K
  refine norm_ (a' := ?_) ?_ ?_
  rotate_left
  · show Act.put _ (some 30) _ = _
    simp only [Act.put, List.setIfInBounds_toArray, List.set_cons_zero, List.set_cons_succ, i64_w, i32_w]
    rfl
  refine pure_ (i := 22) (N := some 5) (v := ?_) (a' := ?_) #[true, true, true, true, true, true, true, true, true, true, true, true, true, true, true, true, true, true, true, true, true, true, true] rfl rfl (by kernel_rfl) (fun _ _ _ h => h) (Or.inl ⟨by rfl, ?_⟩) ?_ ?_
  rotate_left
  · intro w'
    go_simp
    with_reducible rfl
  rotate_left
  · simp only [Act.put, List.setIfInBounds_toArray, List.set_cons_zero, List.set_cons_succ, i64_w, i32_w]
    rfl
  refine done_ (by kernel_rfl) ?_
  have K5 := Aside0.mk (K4.out.call (below_size K4.out.below) (below_alloc (Below.refl _ _) (Obj.cells #[.int .i64 a0_0, .int .i64 a0_1, .int .i64 a0_2, .int .i64 a0_3, .int .i64 a0_4, .int .i64 a0_6, .int .i64 a0_7, .int .i64 fl, .int .i64 a0_18, .int .i64 (l0_5.length : Int)] 3)))
  have HB5 := Aside0.mk (HB4.out.trans ((below_alloc (Below.refl _ _) (Obj.cells #[.int .i64 a0_0, .int .i64 a0_1, .int .i64 a0_2, .int .i64 a0_3, .int .i64 a0_4, .int .i64 a0_6, .int .i64 a0_7, .int .i64 fl, .int .i64 a0_18, .int .i64 (l0_5.length : Int)] 3)).mono HB4.out.size))
  have HO5 := Aside0.mk (Kd.R_alloc (Kd.R_mono (ok' := fun k => k ≠ w5.heap.size) (Kd.R_bound HO4.out) (fun k hk => Nat.ne_of_lt hk.2.2.1)) (Obj.cells #[.int .i64 a0_0, .int .i64 a0_1, .int .i64 a0_2, .int .i64 a0_3, .int .i64 a0_4, .int .i64 a0_6, .int .i64 a0_7, .int .i64 fl, .int .i64 a0_18, .int .i64 (l0_5.length : Int)] 3))
  have BL := Aside0.mk (blk_new w5 (Obj.cells #[.int .i64 a0_0, .int .i64 a0_1, .int .i64 a0_2, .int .i64 a0_3, .int .i64 a0_4, .int .i64 a0_6, .int .i64 a0_7, .int .i64 fl, .int .i64 a0_18, .int .i64 (l0_5.length : Int)] 3))
  clear K4 HB4 HO4 hHeld
  generalize w5.alloc (Obj.cells #[.int .i64 a0_0, .int .i64 a0_1, .int .i64 a0_2, .int .i64 a0_3, .int .i64 a0_4, .int .i64 a0_6, .int .i64 a0_7, .int .i64 fl, .int .i64 a0_18, .int .i64 (l0_5.length : Int)] 3) = w6 at *
  generalize w5.heap.size = gL at *
  go_wp2
  have hN0 : w.heap.size ≤ W2.heap.size := below_size K1.out.below
  go_loopg [4, 6] k (fun kq v4 v6 w' => ∃ (i : Int) (b : List Int), v6 = .int .i64 i ∧ Aside0 (rcA kq l0_5 [a0_0, a0_1, a0_2, a0_3, a0_4, a0_6, a0_7, fl, a0_18, (l0_5.length : Int)] b i = some (r1, r2, r3)) ∧ Aside0 (Bks w.heap.size w w' [(g2, 26, #[.int .i64 0, .slice none 0 0]), (g1, 55, #[.int .i64 a0_0, .int .i64 a0_1, .int .i64 a0_2, .int .i64 a0_3, .int .i64 a0_4, .slice A0_5 l0_5.length c0_5, .int .i64 a0_6, .int .i64 a0_7, .bool a0_8, .bool a0_9, .bool a0_10, .bool a0_11, .bool a0_12, .bool a0_13, .bool a0_14, .bool a0_15, .slice A0_16 l0_16.length c0_16, .int .i64 a0_17, .int .i64 a0_18])]) ∧ Aside0 (Below W2.heap.size W2 w') ∧ Aside0 (Kd.R (Kd.int .u8) 5 w' W2.heap.size (fun k => k ≠ gL) v4 b) ∧ Aside0 (w'.heap[gL]? = some (.cells #[.int .i64 a0_0, .int .i64 a0_1, .int .i64 a0_2, .int .i64 a0_3, .int .i64 a0_4, .int .i64 a0_6, .int .i64 a0_7, .int .i64 fl, .int .i64 a0_18, .int .i64 (l0_5.length : Int)] 3 (0, 0))))
  case atStart => exact ⟨0, [], rfl, H, K5, HB5, HO5, BL⟩
  case round =>
  clear H K5 HB5 HO5 BL
  obtain ⟨i, b, rfl, HX, K, HB, HO, BL⟩ := hrel
  cases gk with
  | zero => exact absurd HX.out (by simp [rcA])
  | succ kk =>
  have hs := HX.out
  clear HX
  rw [rcA.eq_2, show (([a0_0, a0_1, a0_2, a0_3, a0_4, a0_6, a0_7, fl, a0_18, (l0_5.length : Int)] : List Int).length : Int) = 10 from rfl] at hs
  by_cases hi : i < 10
  rotate_left
  · rw [if_neg hi] at hs
    have HX := Aside0.mk hs
    have hb0 : decide (i < 10) = false := decide_eq_false hi
    clear hs hi
    go_wp2
    have h5 : l0_5.length ≤ 9223372036854775807 := HR5.out.2.1
    have H5 := Aside0.mk h5
    clear h5
    go_loopg [4, 7] kk (fun kq v4 v7 w' => ∃ (i : Int) (b : List Int), v7 = .int .i64 i ∧ Aside0 (rcB kq l0_5 b i = some (r1, r2, r3)) ∧ Aside0 (Bks w.heap.size w w' [(g2, 26, #[.int .i64 0, .slice none 0 0]), (g1, 55, #[.int .i64 a0_0, .int .i64 a0_1, .int .i64 a0_2, .int .i64 a0_3, .int .i64 a0_4, .slice A0_5 l0_5.length c0_5, .int .i64 a0_6, .int .i64 a0_7, .bool a0_8, .bool a0_9, .bool a0_10, .bool a0_11, .bool a0_12, .bool a0_13, .bool a0_14, .bool a0_15, .slice A0_16 l0_16.length c0_16, .int .i64 a0_17, .int .i64 a0_18])]) ∧ Aside0 (Below W2.heap.size W2 w') ∧ Aside0 (Kd.R (Kd.int .u8) 5 w' W2.heap.size (fun k => k ≠ gL) v4 b) ∧ Aside0 (w'.heap[gL]? = some (.cells #[.int .i64 a0_0, .int .i64 a0_1, .int .i64 a0_2, .int .i64 a0_3, .int .i64 a0_4, .int .i64 a0_6, .int .i64 a0_7, .int .i64 fl, .int .i64 a0_18, .int .i64 (l0_5.length : Int)] 3 (0, 0))))
    case atStart => exact ⟨0, b, rfl, HX, K, HB, HO, BL⟩
    case round =>
    clear HX K HB HO BL hb0
    obtain ⟨i, b, rfl, HX, K, HB, HO, BL⟩ := hrel
    cases gk with
    | zero => exact absurd HX.out (by simp [rcB])
    | succ kj =>
    have hs := HX.out
    clear HX
    rw [rcB.eq_2] at hs
    have f5 : wr.cell? ⟨g1, 5, none⟩ = some (.slice A0_5 l0_5.length c0_5) := K.out.cell 1 rfl 5 rfl
    by_cases hi : i < (l0_5.length : Int)
    rotate_left
    · rw [if_neg hi] at hs
      have hb0 : decide (i < (l0_5.length : Int)) = false := decide_eq_false hi
      simp only [Option.some.injEq, Prod.mk.injEq] at hs
      obtain ⟨rfl, rfl, rfl⟩ := hs
      clear hi
      obtain ⟨Ab, cb, rfl⟩ := Kd.R_slice HO.out
      go_wp2_with ((with_reducible refine gate_store (t := 26) (p := 2) (v := .tmp 93) rfl ?_); refine store_ev rfl rfl 26 (.tmp 2) (.tmp 93) rfl rfl rfl (K.out.get 0 rfl) rfl rfl (by first | (kernel_rfl) | (simp [Value.oneCell'])) ?_; intro W8 hs; have K7 := Aside0.mk (K.out.stored 0 rfl hs); have HO7 := Aside0.mk (row_stored (Kd.R_mono (ok' := fun _ => True) HO.out (fun _ _ => trivial)) (K.out.get 0 rfl) (by decide) hs); clear hs)
      refine bodyPost_ret (results_ct rfl _ _ g2 26 _ (0, 0) _ rfl (K7.out.get 0 rfl) Try.underlying26 rfl (by kernel_rfl)) rfl ?_
      exact ⟨_, rfl, Kd.R_lower HO7.out hN0, K7.out.below⟩
    rw [if_pos hi] at hs
    by_cases hi0 : 0 ≤ i
    rotate_left
    · rw [if_neg hi0] at hs
      cases hs
    rw [if_pos hi0] at hs
    obtain ⟨c1, hin1, hs⟩ := Option.bind_eq_some_iff.mp hs
    have HI1 := Aside0.mk hin1
    have HX := Aside0.mk hs
    have hb0 : decide (i < (l0_5.length : Int)) = true := decide_eq_true hi
    obtain ⟨ad, e0, -⟩ := at_T89 HR5.out i hi0 hi
    subst e0
    have hAt : ∀ W, Below w.heap.size w W → W.cell? (ad.add (i.toNat * 2)) = some (.int .i64 (rd_T89 l0_5 i).f0) ∧ W.cell? ⟨(ad.add (i.toNat * 2)).block, (ad.add (i.toNat * 2)).off + 1, none⟩ = some (.int .i64 (rd_T89 l0_5 i).f1) := fun W hB => by
      obtain ⟨ad', e0, hx⟩ := at_T89 (Kd.C_below HR5.out hB) i hi0 hi
      cases e0
      exact hx
    have HAt := Aside0.mk hAt
    have p0 : (0 ≤ i) = True := eq_true hi0
    have p1 : (i < (l0_5.length : Int)) = True := eq_true hi
    clear hs hin1 hi hi0 hAt
    have x0 := (HAt.out _ K.out.below).1
    go_wp2_with (go_at_call 45; fail)
    refine (waveletref29_in.calls (rd_T89 l0_5 i).f0 0 15 c1 _ HI1.out).mono ?_
    rintro _ w7 ⟨rfl, hd⟩
    clear f5 x0
    have K' := Aside0.mk (K.out.call (below_size K.out.below) hd.below)
    have HB' := Aside0.mk (HB.out.trans (hd.below.mono HB.out.size))
    have HO' := Aside0.mk (Kd.R_below HO.out hd.below)
    have BL' := Aside0.mk (blk_below BL.out hd.below)
    clear hd K HB HO BL
    have K := K'
    have HB := HB'
    have HO := HO'
    have BL := BL'
    clear K' HB' HO' BL'
    cases c1 with
    | false =>
      have h := HX.out
      rw [if_neg (by simp)] at h
      simp only [Option.some.injEq, Prod.mk.injEq] at h
      obtain ⟨rfl, rfl, rfl⟩ := h
      clear HX
      go_wp2_with ((with_reducible refine gate_store (t := 26) (p := 2) (v := .tmp 75) rfl ?_); refine store_ev rfl rfl 26 (.tmp 2) (.tmp 75) rfl rfl rfl (K.out.get 0 rfl) rfl rfl (by first | (kernel_rfl) | (simp [Value.oneCell'])) ?_; intro W8 hs; have K7 := Aside0.mk (K.out.stored 0 rfl hs); clear hs)
      refine bodyPost_ret (results_ct rfl _ _ g2 26 _ (0, 0) _ rfl (K7.out.get 0 rfl) Try.underlying26 rfl (by kernel_rfl)) rfl ?_
      exact ⟨_, rfl, Kd.R_nil (Kd.int .u8) 5 _ _ _, K7.out.below⟩
    | true =>
      have h := HX.out
      rw [if_pos rfl] at h
      obtain ⟨c2, hin2, h⟩ := Option.bind_eq_some_iff.mp h
      have HI2 := Aside0.mk hin2
      have HX' := Aside0.mk h
      clear HX hin2 h
      have HX := HX'
      clear HX'
      have f5 : w7.cell? ⟨g1, 5, none⟩ = some (.slice (some ad) l0_5.length c0_5) := K.out.cell 1 rfl 5 rfl
      have x1 := (HAt.out _ K.out.below).2
      go_wp2_with (go_at_call 45; fail)
      refine (waveletref29_in.calls (rd_T89 l0_5 i).f1 0 15 c2 _ HI2.out).mono ?_
      rintro _ w8 ⟨rfl, hd⟩
      clear f5 x1
      have K' := Aside0.mk (K.out.call (below_size K.out.below) hd.below)
      have HB' := Aside0.mk (HB.out.trans (hd.below.mono HB.out.size))
      have HO' := Aside0.mk (Kd.R_below HO.out hd.below)
      have BL' := Aside0.mk (blk_below BL.out hd.below)
      clear hd K HB HO BL
      have K := K'
      have HB := HB'
      have HO := HO'
      have BL := BL'
      clear K' HB' HO' BL'
      cases c2 with
      | false =>
        have h := HX.out
        rw [if_neg (by simp)] at h
        simp only [Option.some.injEq, Prod.mk.injEq] at h
        obtain ⟨rfl, rfl, rfl⟩ := h
        clear HX
        go_wp2_with ((with_reducible refine gate_store (t := 26) (p := 2) (v := .tmp 75) rfl ?_); refine store_ev rfl rfl 26 (.tmp 2) (.tmp 75) rfl rfl rfl (K.out.get 0 rfl) rfl rfl (by first | (kernel_rfl) | (simp [Value.oneCell'])) ?_; intro W8 hs; have K7 := Aside0.mk (K.out.stored 0 rfl hs); clear hs)
        refine bodyPost_ret (results_ct rfl _ _ g2 26 _ (0, 0) _ rfl (K7.out.get 0 rfl) Try.underlying26 rfl (by kernel_rfl)) rfl ?_
        exact ⟨_, rfl, Kd.R_nil (Kd.int .u8) 5 _ _ _, K7.out.below⟩
      | true =>
      have h := HX.out
      rw [if_pos rfl] at h
      obtain ⟨b', hput, h⟩ := Option.bind_eq_some_iff.mp h
      have HP := Aside0.mk hput
      have HX' := Aside0.mk h
      clear HX hput h
      go_wp2
      have K' := Aside0.mk K.out.drew
      have HB' := Aside0.mk (below_drew1 HB.out)
      have HO' := Aside0.mk (Kd.R_drew HO.out)
      have BL' := Aside0.mk (blk_drew BL.out)
      clear K HB HO BL
      have K := K'
      have HB := HB'
      have HO := HO'
      have BL := BL'
      clear K' HB' HO' BL'
      refine start_ (n := 17) (S := fun w' => w'.cell? ⟨g1, 5, none⟩ = some (.slice (some ad) l0_5.length c0_5) ∧ w'.cell? (ad.add (i.toNat * 2)) = some (.int .i64 (rd_T89 l0_5 i).f0) ∧ w'.cell? ⟨(ad.add (i.toNat * 2)).block, (ad.add (i.toNat * 2)).off + 1, none⟩ = some (.int .i64 (rd_T89 l0_5 i).f1)) (ds := []) #[false, false, false, false, false, false, false, false, false, false, false, false, false, false, false, false, false] (by kernel_rfl) rfl rfl ⟨K.out.cell 1 rfl 5 rfl, HAt.out _ K.out.below⟩ (fun hHeld0 => ?_)
      generalize w8.drew = w9 at *
      have hHeld := Aside0.mk hHeld0
      clear hHeld0
      refine pure_ (i := 0) (N := some 76) (v := ?_) (a' := ?_) #[true, false, false, false, false, false, false, false, false, false, false, false, false, false, false, false, false] rfl rfl (by kernel_rfl) (fun _ _ _ h => h) (Or.inl ⟨by rfl, ?_⟩) ?_ ?_
      rotate_left
      · intro w'
        go_simp
        with_reducible rfl
      rotate_left
      · simp only [Act.put, List.setIfInBounds_toArray, List.set_cons_zero, List.set_cons_succ, i64_w, i32_w]
        rfl
      refine pure_ (i := 1) (N := some 77) (v := ?_) (a' := ?_) #[true, true, false, false, false, false, false, false, false, false, false, false, false, false, false, false, false] rfl rfl (by kernel_rfl) (fun _ _ _ h => h) (Or.inl ⟨by rfl, ?_⟩) ?_ ?_
      rotate_left
      · intro w'
        go_simp
        with_reducible rfl
      rotate_left
      · simp only [Act.put, List.setIfInBounds_toArray, List.set_cons_zero, List.set_cons_succ, i64_w, i32_w]
        rfl
      refine pure_ (i := 3) (N := some 79) (v := ?_) (a' := ?_) #[true, true, false, true, false, false, false, false, false, false, false, false, false, false, false, false, false] rfl rfl (by kernel_rfl) (fun _ _ _ h => h) (Or.inl ⟨by rfl, ?_⟩) ?_ ?_
      rotate_left
      · intro w'
        go_simp
        with_reducible rfl
      rotate_left
      · simp only [Act.put, List.setIfInBounds_toArray, List.set_cons_zero, List.set_cons_succ, i64_w, i32_w]
        rfl
      refine pure_ (i := 7) (N := some 83) (v := ?_) (a' := ?_) #[true, true, false, true, false, false, false, true, false, false, false, false, false, false, false, false, false] rfl rfl (by kernel_rfl) (fun _ _ _ h => h) (Or.inl ⟨by rfl, ?_⟩) ?_ ?_
      rotate_left
      · intro w'
        go_simp
        with_reducible rfl
      rotate_left
      · simp only [Act.put, List.setIfInBounds_toArray, List.set_cons_zero, List.set_cons_succ, i64_w, i32_w]
        rfl
      refine pure_ (i := 9) (N := some 85) (v := ?_) (a' := ?_) #[true, true, false, true, false, false, false, true, false, true, false, false, false, false, false, false, false] rfl rfl (by kernel_rfl) (fun _ _ _ h => h) (Or.inl ⟨by rfl, ?_⟩) ?_ ?_
      rotate_left
      · intro w'
        go_simp
        with_reducible rfl
      rotate_left
      · simp only [Act.put, List.setIfInBounds_toArray, List.set_cons_zero, List.set_cons_succ, i64_w, i32_w]
        rfl
      refine take_ (i := 2) (N := some 78) (v := ?_) (a' := ?_) #[true, true, true, true, false, false, false, true, false, true, false, false, false, false, false, false, false] rfl rfl (by kernel_rfl) (fun _ _ _ h => h) (Or.inl ⟨by rfl, ?_⟩) hHeld.out ?_ ?_
      rotate_left
      · rintro w' ⟨s0, s1, s2⟩
        go_simp
        with_reducible rfl
      rotate_left
      · simp only [Act.put, List.setIfInBounds_toArray, List.set_cons_zero, List.set_cons_succ, i64_w, i32_w]
        rfl
      refine take_ (i := 8) (N := some 84) (v := ?_) (a' := ?_) #[true, true, true, true, false, false, false, true, true, true, false, false, false, false, false, false, false] rfl rfl (by kernel_rfl) (fun _ _ _ h => h) (Or.inl ⟨by rfl, ?_⟩) hHeld.out ?_ ?_
      rotate_left
      · rintro w' ⟨s0, s1, s2⟩
        go_simp
        with_reducible rfl
      rotate_left
      · simp only [Act.put, List.setIfInBounds_toArray, List.set_cons_zero, List.set_cons_succ, i64_w, i32_w]
        rfl
      refine pure_ (i := 4) (N := some 80) (v := ?_) (a' := ?_) #[true, true, true, true, true, false, false, true, true, true, false, false, false, false, false, false, false] rfl rfl (by kernel_rfl) (fun _ _ _ h => h) (Or.inl ⟨by rfl, ?_⟩) ?_ ?_
      rotate_left
      · intro w'
        go_simp
        with_reducible rfl
      rotate_left
      · simp only [Act.put, List.setIfInBounds_toArray, List.set_cons_zero, List.set_cons_succ, i64_w, i32_w]
        rfl
      refine pure_ (i := 5) (N := some 81) (v := ?_) (a' := ?_) #[true, true, true, true, true, true, false, true, true, true, false, false, false, false, false, false, false] rfl rfl (by kernel_rfl) (fun _ _ _ h => h) (Or.inl ⟨by rfl, ?_⟩) ?_ ?_
      rotate_left
      · intro w'
        go_simp
        with_reducible rfl
      rotate_left
      · simp only [Act.put, List.setIfInBounds_toArray, List.set_cons_zero, List.set_cons_succ, i64_w, i32_w]
        rfl
      refine pure_ (i := 10) (N := some 86) (v := ?_) (a' := ?_) #[true, true, true, true, true, true, false, true, true, true, true, false, false, false, false, false, false] rfl rfl (by kernel_rfl) (fun _ _ _ h => h) (Or.inl ⟨by rfl, ?_⟩) ?_ ?_
      rotate_left
      · intro w'
        go_simp
        with_reducible rfl
      rotate_left
      · simp only [Act.put, List.setIfInBounds_toArray, List.set_cons_zero, List.set_cons_succ, i64_w, i32_w]
        rfl
      refine pure_ (i := 11) (N := some 87) (v := ?_) (a' := ?_) #[true, true, true, true, true, true, false, true, true, true, true, true, false, false, false, false, false] rfl rfl (by kernel_rfl) (fun _ _ _ h => h) (Or.inl ⟨by rfl, ?_⟩) ?_ ?_
      rotate_left
      · intro w'
        go_simp
        with_reducible rfl
      rotate_left
      · simp only [Act.put, List.setIfInBounds_toArray, List.set_cons_zero, List.set_cons_succ, i64_w, i32_w]
        rfl
      refine take_ (i := 6) (N := some 82) (v := ?_) (a' := ?_) #[true, true, true, true, true, true, true, true, true, true, true, true, false, false, false, false, false] rfl rfl (by kernel_rfl) (fun _ _ _ h => h) (Or.inl ⟨by rfl, ?_⟩) hHeld.out ?_ ?_
      rotate_left
      · rintro w' ⟨s0, s1, s2⟩
        go_simp
        with_reducible rfl
      rotate_left
      · simp only [Act.put, List.setIfInBounds_toArray, List.set_cons_zero, List.set_cons_succ, i64_w, i32_w]
        rfl
      refine take_ (i := 12) (N := some 88) (v := ?_) (a' := ?_) #[true, true, true, true, true, true, true, true, true, true, true, true, true, false, false, false, false] rfl rfl (by kernel_rfl) (fun _ _ _ h => h) (Or.inl ⟨by rfl, ?_⟩) hHeld.out ?_ ?_
      rotate_left
      · rintro w' ⟨s0, s1, s2⟩
        go_simp
        with_reducible rfl
      rotate_left
      · simp only [Act.put, List.setIfInBounds_toArray, List.set_cons_zero, List.set_cons_succ, i64_w, i32_w]
        rfl
      refine pure_ (i := 13) (N := some 89) (v := ?_) (a' := ?_) #[true, true, true, true, true, true, true, true, true, true, true, true, true, true, false, false, false] rfl rfl (by kernel_rfl) (fun _ _ _ h => h) (Or.inl ⟨by rfl, ?_⟩) ?_ ?_
      rotate_left
      · intro w'
        go_simp
        with_reducible rfl
      rotate_left
      · simp only [Act.put, List.setIfInBounds_toArray, List.set_cons_zero, List.set_cons_succ, i64_w, i32_w]
        rfl
      refine pure_ (i := 14) (N := some 90) (v := ?_) (a' := ?_) #[true, true, true, true, true, true, true, true, true, true, true, true, true, true, true, false, false] rfl rfl (by kernel_rfl) (fun _ _ _ h => h) (Or.inl ⟨by rfl, ?_⟩) ?_ ?_
      rotate_left
      · intro w'
        go_simp
        with_reducible rfl
      rotate_left
      · simp only [Act.put, List.setIfInBounds_toArray, List.set_cons_zero, List.set_cons_succ, i64_w, i32_w]
        rfl
      refine one_ (i := 15) (N := some 91) #[true, true, true, true, true, true, true, true, true, true, true, true, true, true, true, true, false] rfl rfl (by kernel_rfl) (by decide) (fun K0 hK => ?_)
      obtain ⟨Ab, cb, rfl⟩ := Kd.R_slice HO.out
      refine goes_ Try.func46 (by kernel_rfl) rfl #[.slice Ab b.length cb, .int .i64 (wrap64 ((rd_T89 l0_5 i).f0 + wrap64 (16 * (rd_T89 l0_5 i).f1))), .int .i64 1] (by rfl) rfl rfl (by simp only [List.map_toArray, List.map_cons, List.map_nil]; rfl) ?_
      refine (waveletref29_put.calls kj (fun k => k ≠ gL) _ b _ 1 b' W2 _ HB.out HO.out HP.out).mono ?_
      rintro _ w10 ⟨v0, rfl, ho, hb, hk⟩
      refine ⟨_, rfl, ?_⟩
      have BL7 := Aside0.mk ((hk.2 gL (blk_lt BL.out) (fun h => h rfl)).trans BL.out)
      have hlt := blk_lt BL.out
      have HO7 := Aside0.mk (Kd.R_mono (ok' := fun k => k ≠ gL) ho (fun k hk => hk.elim id (fun h => by omega)))
      have HB7 := Aside0.mk hb
      have K7 := Aside0.mk (K1.out.call hN0 hb)
      clear ho hb hk hlt hHeld HO HB K BL
      obtain ⟨Ab', cb', rfl⟩ := Kd.R_slice HO7.out
      refine hK.out _ _ ⟨K7.out.cell 1 rfl 5 rfl, HAt.out _ K7.out.below⟩ (fun hHeld => ?_)
      clear hK K0
      refine norm_ (a' := ?_) ?_ ?_
      rotate_left
      · show Act.put _ (some 91) _ = _
        simp only [Act.put, List.setIfInBounds_toArray, List.set_cons_zero, List.set_cons_succ, i64_w, i32_w]
        rfl
      refine pure_ (i := 16) (N := some 4) (v := ?_) (a' := ?_) #[true, true, true, true, true, true, true, true, true, true, true, true, true, true, true, true, true] rfl rfl (by kernel_rfl) (fun _ _ _ h => h) (Or.inl ⟨by rfl, ?_⟩) ?_ ?_
      rotate_left
      · intro w'
        go_simp
        with_reducible rfl
      rotate_left
      · simp only [Act.put, List.setIfInBounds_toArray, List.set_cons_zero, List.set_cons_succ, i64_w, i32_w]
        rfl
      refine done_ (by kernel_rfl) ?_
      clear hHeld
      go_wp2
      go_roundg kj
      case measure => omega
      case rel => exact ⟨_, b', rfl, HX', K7, HB7, HO7, BL7⟩
  rw [if_pos hi] at hs
  by_cases hi0 : 0 ≤ i
  rotate_left
  · rw [if_neg hi0] at hs
    cases hs
  rw [if_pos hi0] at hs
  obtain ⟨c, hin, hs⟩ := Option.bind_eq_some_iff.mp hs
  have HI := Aside0.mk hin
  have HX := Aside0.mk hs
  have hb0 : decide (i < 10) = true := decide_eq_true hi
  have p0 : (0 ≤ i) = True := eq_true hi0
  have p1 : (i < 10) = True := eq_true hi
  have hcell : ∀ W : World, W.heap[gL]? = some (.cells #[.int .i64 a0_0, .int .i64 a0_1, .int .i64 a0_2, .int .i64 a0_3, .int .i64 a0_4, .int .i64 a0_6, .int .i64 a0_7, .int .i64 fl, .int .i64 a0_18, .int .i64 (l0_5.length : Int)] 3 (0, 0)) → W.cell? ⟨gL, i.toNat, none⟩ = some (.int .i64 (rd [a0_0, a0_1, a0_2, a0_3, a0_4, a0_6, a0_7, fl, a0_18, (l0_5.length : Int)] i)) := fun W hW => (blk_cell hW i.toNat).trans (ten_at _ _ _ _ _ _ _ _ _ _ i hi0 hi)
  have HCe := Aside0.mk hcell
  clear hs hin hi hi0 hcell
  have hx := HCe.out _ BL.out
  cases c with
  | false =>
    have h := HX.out
    rw [if_neg (by simp)] at h
    simp only [Option.some.injEq, Prod.mk.injEq] at h
    obtain ⟨rfl, rfl, rfl⟩ := h
    clear HX
    go_wp2_with (first
      | (go_at_call 45; refine (waveletref29_in.calls _ 0 255 false _ HI.out).mono ?_; rintro _ w7 ⟨rfl, hd⟩; have K6 := Aside0.mk (K.out.call (below_size K.out.below) hd.below); clear hd hx)
      | ((with_reducible refine gate_store (t := 26) (p := 2) (v := .tmp 43) rfl ?_); refine store_ev rfl rfl 26 (.tmp 2) (.tmp 43) rfl rfl rfl (K6.out.get 0 rfl) rfl rfl (by first | (kernel_rfl) | (simp [Value.oneCell'])) ?_; intro W8 hs; have K7 := Aside0.mk (K6.out.stored 0 rfl hs); clear hs))
    refine bodyPost_ret (results_ct rfl _ _ g2 26 _ (0, 0) _ rfl (K7.out.get 0 rfl) Try.underlying26 rfl (by kernel_rfl)) rfl ?_
    exact ⟨_, rfl, Kd.R_nil (Kd.int .u8) 5 _ _ _, K7.out.below⟩
  | true =>
    have h := HX.out
    rw [if_pos rfl] at h
    obtain ⟨b', hput, h⟩ := Option.bind_eq_some_iff.mp h
    have HP := Aside0.mk hput
    have HX' := Aside0.mk h
    clear HX hput h
    go_wp2_with (first
      | (go_at_call 45; refine (waveletref29_in.calls _ 0 255 true _ HI.out).mono ?_; rintro _ w7 ⟨rfl, hd⟩; have K6 := Aside0.mk (K.out.call (below_size K.out.below) hd.below); have HB6 := Aside0.mk (HB.out.trans (hd.below.mono HB.out.size)); have HO6 := Aside0.mk (Kd.R_below HO.out hd.below); have BL6 := Aside0.mk (blk_below BL.out hd.below); clear hd hx K HB HO BL; have hx := HCe.out _ BL6.out)
      | (go_at_call 46; refine (waveletref29_put.calls kk (fun k => k ≠ gL) _ b _ 1 b' W2 _ HB6.out HO6.out HP.out).mono ?_; rintro _ w8 ⟨v0, rfl, ho, hb, hk⟩; have BL7 := Aside0.mk ((hk.2 gL (blk_lt BL6.out) (fun h => h rfl)).trans BL6.out); have hlt := blk_lt BL6.out; have HO7 := Aside0.mk (Kd.R_mono (ok' := fun k => k ≠ gL) ho (fun k hk => hk.elim id (fun h => by omega))); have HB7 := Aside0.mk hb; clear ho hb hk hlt hx))
    go_roundg kk
    case measure => omega
    case rel => exact ⟨_, b', rfl, HX', ⟨K1.out.call hN0 HB7.out⟩, HB7, HO7, BL7⟩
end Go.Proofs.Ytihfopblmjgfaaa.Q

/- A number read, or the failure; a call that may panic, in a drawn region. -/
namespace Go.Proofs.Ytihfopblmjgfaaa.Q
open Go.RowKit Go.Proofs.YtihfopblmjgfaaaW.PrintWords Go.Proofs.YtihfopblmjgfaaaW.PrintLast Go.Proofs.YtihfopblmjgfaaaW.PrintMore
set_option linter.unusedVariables false
set_option linter.unusedSimpArgs false
/-- A number is read, or the reading fails. -/
def rdn {ρ : Type} (k : Nat) (l : List Int) (p n : Int) (bad : Int → ρ) (f : Int → Option ρ) : Option ρ := (marker_ReadUint.f k l p n).bind fun q => if q.2 = 0 then f q.1 else some (bad q.2)
theorem rdn_mono {ρ : Type} (k : Nat) (l : List Int) (p n : Int) (bad : Int → ρ) {f g : Int → Option ρ} (h : ∀ x, LeO (f x) (g x)) : LeO (rdn k l p n bad f) (rdn (k + 1) l p n bad g) :=
  LeO.bind (marker_ReadUint.mono _ _ _ _) (fun q => LeO.ite (h q.1) (LeO.refl _))
/-- A call that may panic. -/
theorem goesP_ {P : Program} {ops : Array Oper} {Q : Exit → Act → World → Prop} {oi : Oper} {N : Option Tmp} {a : Act} {w : World} {K : Act → World → Prop} {f : FuncId} {fn : Func} {ars : Array Operand} {ts : Array TypeId} (hf : P.funcs[f]? = some fn) (hname : (fn.name == "runtime.NumGoroutine") = false) (hb : fn.body.isSome = true) (args : Array Value)
    (hw : Region.wanted oi (yielded ops a.tmps) = true) (hN : oi.dst = N) (hop : oi.op = .call { callee := .value (.func f), args := ars, argTypes := ts }) (hargs : ars.map a.eval = args)
    (h : Calls P f args w fun e w' => (∃ v, e = .returned v ∧ K (a.put N v) w') ∨ ∃ c, e = .panicked c ∧ Q (.panic c) a w') : if Region.wanted oi (yielded ops a.tmps) = true then Oper.wp P oi a w K Q else K (a.put N undef) w := by
  have he := enters_ hf hname hb args w
  have hrun : (execOp a.eval oi).run P w = .ok (.enter f args) w := by
    unfold execOp
    simp [hop, resolve, Deferred.ofValue, invoke, Act.eval, hargs, he]
  rw [if_pos hw]
  subst hN
  unfold Oper.wp
  rw [hrun, Oper.upon_enter]
  refine h.mono fun e w'' hh => ?_
  rcases hh with ⟨v, rfl, hk⟩ | ⟨c, rfl, hq⟩
  · exact hk
  · exact hq
end Go.Proofs.Ytihfopblmjgfaaa.Q

/- ParseCoding: its closures, and the function. Printed by wip/tools/genPCod.py of this session. -/
namespace Go.Proofs.Ytihfopblmjgfaaa.Q
open Go.RowKit Go.Proofs.YtihfopblmjgfaaaW.PrintWords Go.Proofs.YtihfopblmjgfaaaW.PrintLast Go.Proofs.YtihfopblmjgfaaaW.PrintMore
set_option linter.unusedVariables false
set_option linter.unusedSimpArgs false

/-- A flag of a number. -/
def flag (f b : Int) : Bool := Go.bits .and .i64 (f / 2 ^ b.toNat) 1 == 1
set_option maxHeartbeats 4000000 in
set_option maxRecDepth 100000 in
theorem on_closure (g : Nat) (f : Int) (b : Int) (h0 : 0 ≤ b) (h7 : b ≤ 7) (w : World) (hb : w.heap[g]? = some (.cells #[.int .i64 f] 3 (0, 0))) :
    Calls Try.prog 59 #[.int .i64 b, .pointer (some ⟨g, 0, none⟩)] w fun e w' => e = .returned (.bool (flag f b)) ∧ w' = w := by
  have hc : w.cell? ⟨g, 0, none⟩ = some (.int .i64 f) := (blk_cell hb 0).trans rfl
  have hu : IntKind.u64.wrap b = b := by rw [IntKind.wrap_u64]; omega
  go_enter Try.func59, Try.ntmps59
  go_wp2
  go_ret
  exact ⟨rfl, rfl⟩
/-- The precincts: the error, the list, the place behind. -/
def codLoop : Nat → List Int → Int → Int → List S89 → Option (Int × List S89 × Int)
  | 0, _, _, _, _ => none
  | k + 1, l, p, n, xs => if n > 0 then (if xs.length < 8796093022207 then rdn k l p 1 (fun e => (e, [], 0)) (fun v => codLoop k l (wrap64 (p + 1)) (wrap64 (n - 1)) (xs ++ [⟨Go.bits .and .i64 v 15, v / 16⟩])) else none) else some (0, xs, p)
theorem codLoop.mono : ∀ k l p n xs, LeO (codLoop k l p n xs) (codLoop (k + 1) l p n xs)
  | 0, _, _, _, _ => LeO.none _
  | k + 1, l, p, n, xs => by
    rw [codLoop.eq_2, codLoop.eq_2]
    exact LeO.ite (LeO.ite (rdn_mono _ _ _ _ _ fun _ => codLoop.mono _ _ _ _ _) (LeO.refl _)) (LeO.refl _)
/-- What the closure reads: the seven numbers, the flags, the shift, the precincts, the place behind. -/
structure CodR where
  e : Int
  x0 : Int
  x1 : Int
  x2 : Int
  x3 : Int
  x4 : Int
  x5 : Int
  x6 : Int
  f : Int
  sh : Int
  t : List S89
  p : Int
def badCod (e : Int) : CodR := ⟨e, 0, 0, 0, 0, 0, 0, 0, 0, 0, [], 0⟩
def codRead (k : Nat) (l : List Int) : Option CodR :=
  rdn k l 0 1 badCod fun x0 => rdn k l 1 1 badCod fun x1 => rdn k l 2 1 badCod fun x2 => rdn k l 3 1 badCod fun x3 => rdn k l 4 1 badCod fun x4 => rdn k l 5 1 badCod fun x5 => rdn k l 6 1 badCod fun x6 => rdn k l 7 1 badCod fun f => rdn k l 8 1 badCod fun sh => rdn k l 9 1 badCod fun n => (codLoop k l 10 n []).bind fun t => some (if t.1 = 0 then ⟨0, x0, x1, x2, x3, x4, x5, x6, f, sh, t.2.1, t.2.2⟩ else badCod t.1)
theorem codRead.mono (k : Nat) (l : List Int) : LeO (codRead k l) (codRead (k + 1) l) :=
  rdn_mono _ _ _ _ _ fun _ => rdn_mono _ _ _ _ _ fun _ => rdn_mono _ _ _ _ _ fun _ => rdn_mono _ _ _ _ _ fun _ => rdn_mono _ _ _ _ _ fun _ => rdn_mono _ _ _ _ _ fun _ => rdn_mono _ _ _ _ _ fun _ => rdn_mono _ _ _ _ _ fun _ => rdn_mono _ _ _ _ _ fun _ => rdn_mono _ _ _ _ _ fun _ => LeO.bind (codLoop.mono _ _ _ _ _) fun _ => LeO.refl _

set_option maxHeartbeats 8000000 in
set_option maxRecDepth 100000 in
theorem cod_closure (k : Nat) (wb w1 : World) (A : Option Addr) (c : Nat) (l : List Int) (hC : Kd.C (Kd.int .u8) wb A l.length l) (hc : l.length ≤ c) (ra g : Nat) (hr1 : g ≠ ra) (l0 : wb.heap.size ≤ ra) (l1 : wb.heap.size ≤ g) (hlr : ra < w1.heap.size) (hlg : g < w1.heap.size)
    (hB : Below wb.heap.size wb w1) (br : w1.heap[ra]? = some (.cells #[.slice A l.length c, .int .i64 0] 102 (0, 0))) (b1 : w1.heap[g]? = some (.cells #[.int .i64 0, .int .i64 0, .int .i64 0, .int .i64 0, .int .i64 0, .slice none 0 0, .int .i64 0, .int .i64 0, .bool false, .bool false, .bool false, .bool false, .bool false, .bool false, .bool false, .bool false, .slice none 0 0, .int .i64 0, .int .i64 0] 55 (0, 0)))
    (z : CodR) (h : codRead k l = some z) :
    Calls Try.prog 58 #[.pointer (some ⟨ra, 0, none⟩), .pointer (some ⟨g, 0, none⟩)] w1 fun en w2 => Only (fun k => k = g ∨ k = ra) w1 w2 ∧
      ((∃ p, en = .returned (.tuple #[]) ∧ w2.heap[ra]? = some (.cells #[.slice A l.length c, .int .i64 p] 102 (0, 0)) ∧ (z.e = 0 ∧ p = z.p ∧ ∃ v, w2.heap[g]? = some (.cells #[.int .i64 z.x0, .int .i64 z.x1, .int .i64 z.x2, .int .i64 z.x3, .int .i64 z.x4, v, .int .i64 z.x5, .int .i64 z.x6, .bool (flag z.f 0), .bool (flag z.f 1), .bool (flag z.f 2), .bool (flag z.f 3), .bool (flag z.f 4), .bool (flag z.f 5), .bool (flag z.f 6), .bool (flag z.f 7), .slice none 0 0, .int .i64 0, .int .i64 z.sh] 55 (0, 0)) ∧ Kd.R k89 89 w2 wb.heap.size (fun k => w1.heap.size ≤ k) v z.t)) ∨
        ∃ e', en = .panicked [{ v := .iface 99 (.agg #[.int .i64 e']), recovered := false }] ∧ (e' = z.e ∧ z.e ≠ 0)) := by
  have H := Aside0.mk h
  have R := RS.mk (S := fun k => k = g ∨ k = ra) br hB (Only.refl _ w1)
  have B1 := Aside0.mk b1
  clear h br hB b1
  go_enter Try.func58, Try.ntmps58
  cases hq0 : marker_ReadUint.f k l 0 1 with
  | none => have h := H.out; simp [codRead, rdn, hq0] at h
  | some q0 =>
  obtain ⟨x_0, y_0⟩ := q0
  by_cases hy0 : y_0 = 0
  rotate_left
  · have h := H.out
    simp [codRead, rdn, badCod, hq0, hy0] at h
    have h' := Aside0.mk h
    clear h
    go_wp2_with (first | (go_at_call 49; (with_reducible refine (reader_uint.calls k ra A c l 0 1 x_0 y_0 _ R.br (Kd.C_below hC R.below) hc hq0).mono ?_); rintro en w' (⟨hne, _, _⟩ | ⟨_, rfl, hd⟩); exact absurd hne hy0))
    have h := h'.out
    subst h
    exact ⟨rfl, (R.drawn hd).only, .inr ⟨_, rfl, rfl, hy0⟩⟩
  go_wp2_with (first | (go_at_call 49; (with_reducible refine (reader_uint.calls k ra A c l 0 1 x_0 y_0 _ R.br (Kd.C_below hC R.below) hc hq0).mono ?_); rintro en w2 (⟨_, rfl, hd⟩ | ⟨hne, _, _⟩); rotate_left; (exact absurd hy0 hne); have R1 := R.read (p' := 1) l0 (.inr rfl) _ hd (by unfold wrap64; omega); have n1 := Aside0.mk (RS.far B1.out hr1 hd); clear B1 hd; have B1 := n1; clear n1; have hcg : w2.cell? ⟨g, 0, none⟩ = some (.int .i64 0) := (blk_cell B1.out 0).trans rfl; have hzg := blk_frozen B1.out 0))
  clear hcg hzg
  replace R1 := R1.store l1 (.inl rfl) hr1 0 (.int .i64 x_0)
  replace B1 := Aside0.mk (blk_put (cs' := #[.int .i64 x_0, .int .i64 0, .int .i64 0, .int .i64 0, .int .i64 0, .slice none 0 0, .int .i64 0, .int .i64 0, .bool false, .bool false, .bool false, .bool false, .bool false, .bool false, .bool false, .bool false, .slice none 0 0, .int .i64 0, .int .i64 0]) B1.out 0 (.int .i64 x_0) rfl)
  cases hq1 : marker_ReadUint.f k l 1 1 with
  | none => have h := H.out; simp [codRead, rdn, hq0, hy0, hq1] at h
  | some q1 =>
  obtain ⟨x_1, y_1⟩ := q1
  by_cases hy1 : y_1 = 0
  rotate_left
  · have h := H.out
    simp [codRead, rdn, badCod, hq0, hy0, hq1, hy1] at h
    have h' := Aside0.mk h
    clear h
    go_wp2_with (first | (go_at_call 49; (with_reducible refine (reader_uint.calls k ra A c l 1 1 x_1 y_1 _ R1.br (Kd.C_below hC R1.below) hc hq1).mono ?_); rintro en w' (⟨hne, _, _⟩ | ⟨_, rfl, hd⟩); exact absurd hne hy1))
    have h := h'.out
    subst h
    exact ⟨rfl, (R1.drawn hd).only, .inr ⟨_, rfl, rfl, hy1⟩⟩
  go_wp2_with (first | (go_at_call 49; (with_reducible refine (reader_uint.calls k ra A c l 1 1 x_1 y_1 _ R1.br (Kd.C_below hC R1.below) hc hq1).mono ?_); rintro en w3 (⟨_, rfl, hd⟩ | ⟨hne, _, _⟩); rotate_left; (exact absurd hy1 hne); have R2 := R1.read (p' := 2) l0 (.inr rfl) _ hd (by unfold wrap64; omega); have n1 := Aside0.mk (RS.far B1.out hr1 hd); clear B1 hd; have B1 := n1; clear n1; have hcg : w3.cell? ⟨g, 1, none⟩ = some (.int .i64 0) := (blk_cell B1.out 1).trans rfl; have hzg := blk_frozen B1.out 1))
  clear hcg hzg
  replace R2 := R2.store l1 (.inl rfl) hr1 1 (.int .i64 x_1)
  replace B1 := Aside0.mk (blk_put (cs' := #[.int .i64 x_0, .int .i64 x_1, .int .i64 0, .int .i64 0, .int .i64 0, .slice none 0 0, .int .i64 0, .int .i64 0, .bool false, .bool false, .bool false, .bool false, .bool false, .bool false, .bool false, .bool false, .slice none 0 0, .int .i64 0, .int .i64 0]) B1.out 1 (.int .i64 x_1) rfl)
  cases hq2 : marker_ReadUint.f k l 2 1 with
  | none => have h := H.out; simp [codRead, rdn, hq0, hy0, hq1, hy1, hq2] at h
  | some q2 =>
  obtain ⟨x_2, y_2⟩ := q2
  by_cases hy2 : y_2 = 0
  rotate_left
  · have h := H.out
    simp [codRead, rdn, badCod, hq0, hy0, hq1, hy1, hq2, hy2] at h
    have h' := Aside0.mk h
    clear h
    go_wp2_with (first | (go_at_call 49; (with_reducible refine (reader_uint.calls k ra A c l 2 1 x_2 y_2 _ R2.br (Kd.C_below hC R2.below) hc hq2).mono ?_); rintro en w' (⟨hne, _, _⟩ | ⟨_, rfl, hd⟩); exact absurd hne hy2))
    have h := h'.out
    subst h
    exact ⟨rfl, (R2.drawn hd).only, .inr ⟨_, rfl, rfl, hy2⟩⟩
  go_wp2_with (first | (go_at_call 49; (with_reducible refine (reader_uint.calls k ra A c l 2 1 x_2 y_2 _ R2.br (Kd.C_below hC R2.below) hc hq2).mono ?_); rintro en w4 (⟨_, rfl, hd⟩ | ⟨hne, _, _⟩); rotate_left; (exact absurd hy2 hne); have R3 := R2.read (p' := 3) l0 (.inr rfl) _ hd (by unfold wrap64; omega); have n1 := Aside0.mk (RS.far B1.out hr1 hd); clear B1 hd; have B1 := n1; clear n1; have hcg : w4.cell? ⟨g, 2, none⟩ = some (.int .i64 0) := (blk_cell B1.out 2).trans rfl; have hzg := blk_frozen B1.out 2))
  clear hcg hzg
  replace R3 := R3.store l1 (.inl rfl) hr1 2 (.int .i64 x_2)
  replace B1 := Aside0.mk (blk_put (cs' := #[.int .i64 x_0, .int .i64 x_1, .int .i64 x_2, .int .i64 0, .int .i64 0, .slice none 0 0, .int .i64 0, .int .i64 0, .bool false, .bool false, .bool false, .bool false, .bool false, .bool false, .bool false, .bool false, .slice none 0 0, .int .i64 0, .int .i64 0]) B1.out 2 (.int .i64 x_2) rfl)
  cases hq3 : marker_ReadUint.f k l 3 1 with
  | none => have h := H.out; simp [codRead, rdn, hq0, hy0, hq1, hy1, hq2, hy2, hq3] at h
  | some q3 =>
  obtain ⟨x_3, y_3⟩ := q3
  by_cases hy3 : y_3 = 0
  rotate_left
  · have h := H.out
    simp [codRead, rdn, badCod, hq0, hy0, hq1, hy1, hq2, hy2, hq3, hy3] at h
    have h' := Aside0.mk h
    clear h
    go_wp2_with (first | (go_at_call 49; (with_reducible refine (reader_uint.calls k ra A c l 3 1 x_3 y_3 _ R3.br (Kd.C_below hC R3.below) hc hq3).mono ?_); rintro en w' (⟨hne, _, _⟩ | ⟨_, rfl, hd⟩); exact absurd hne hy3))
    have h := h'.out
    subst h
    exact ⟨rfl, (R3.drawn hd).only, .inr ⟨_, rfl, rfl, hy3⟩⟩
  go_wp2_with (first | (go_at_call 49; (with_reducible refine (reader_uint.calls k ra A c l 3 1 x_3 y_3 _ R3.br (Kd.C_below hC R3.below) hc hq3).mono ?_); rintro en w5 (⟨_, rfl, hd⟩ | ⟨hne, _, _⟩); rotate_left; (exact absurd hy3 hne); have R4 := R3.read (p' := 4) l0 (.inr rfl) _ hd (by unfold wrap64; omega); have n1 := Aside0.mk (RS.far B1.out hr1 hd); clear B1 hd; have B1 := n1; clear n1; have hcg : w5.cell? ⟨g, 3, none⟩ = some (.int .i64 0) := (blk_cell B1.out 3).trans rfl; have hzg := blk_frozen B1.out 3))
  clear hcg hzg
  replace R4 := R4.store l1 (.inl rfl) hr1 3 (.int .i64 x_3)
  replace B1 := Aside0.mk (blk_put (cs' := #[.int .i64 x_0, .int .i64 x_1, .int .i64 x_2, .int .i64 x_3, .int .i64 0, .slice none 0 0, .int .i64 0, .int .i64 0, .bool false, .bool false, .bool false, .bool false, .bool false, .bool false, .bool false, .bool false, .slice none 0 0, .int .i64 0, .int .i64 0]) B1.out 3 (.int .i64 x_3) rfl)
  cases hq4 : marker_ReadUint.f k l 4 1 with
  | none => have h := H.out; simp [codRead, rdn, hq0, hy0, hq1, hy1, hq2, hy2, hq3, hy3, hq4] at h
  | some q4 =>
  obtain ⟨x_4, y_4⟩ := q4
  by_cases hy4 : y_4 = 0
  rotate_left
  · have h := H.out
    simp [codRead, rdn, badCod, hq0, hy0, hq1, hy1, hq2, hy2, hq3, hy3, hq4, hy4] at h
    have h' := Aside0.mk h
    clear h
    go_wp2_with (first | (go_at_call 49; (with_reducible refine (reader_uint.calls k ra A c l 4 1 x_4 y_4 _ R4.br (Kd.C_below hC R4.below) hc hq4).mono ?_); rintro en w' (⟨hne, _, _⟩ | ⟨_, rfl, hd⟩); exact absurd hne hy4))
    have h := h'.out
    subst h
    exact ⟨rfl, (R4.drawn hd).only, .inr ⟨_, rfl, rfl, hy4⟩⟩
  go_wp2_with (first | (go_at_call 49; (with_reducible refine (reader_uint.calls k ra A c l 4 1 x_4 y_4 _ R4.br (Kd.C_below hC R4.below) hc hq4).mono ?_); rintro en w6 (⟨_, rfl, hd⟩ | ⟨hne, _, _⟩); rotate_left; (exact absurd hy4 hne); have R5 := R4.read (p' := 5) l0 (.inr rfl) _ hd (by unfold wrap64; omega); have n1 := Aside0.mk (RS.far B1.out hr1 hd); clear B1 hd; have B1 := n1; clear n1; have hcg : w6.cell? ⟨g, 4, none⟩ = some (.int .i64 0) := (blk_cell B1.out 4).trans rfl; have hzg := blk_frozen B1.out 4))
  clear hcg hzg
  replace R5 := R5.store l1 (.inl rfl) hr1 4 (.int .i64 x_4)
  replace B1 := Aside0.mk (blk_put (cs' := #[.int .i64 x_0, .int .i64 x_1, .int .i64 x_2, .int .i64 x_3, .int .i64 x_4, .slice none 0 0, .int .i64 0, .int .i64 0, .bool false, .bool false, .bool false, .bool false, .bool false, .bool false, .bool false, .bool false, .slice none 0 0, .int .i64 0, .int .i64 0]) B1.out 4 (.int .i64 x_4) rfl)
  cases hq5 : marker_ReadUint.f k l 5 1 with
  | none => have h := H.out; simp [codRead, rdn, hq0, hy0, hq1, hy1, hq2, hy2, hq3, hy3, hq4, hy4, hq5] at h
  | some q5 =>
  obtain ⟨x_5, y_5⟩ := q5
  by_cases hy5 : y_5 = 0
  rotate_left
  · have h := H.out
    simp [codRead, rdn, badCod, hq0, hy0, hq1, hy1, hq2, hy2, hq3, hy3, hq4, hy4, hq5, hy5] at h
    have h' := Aside0.mk h
    clear h
    go_wp2_with (first | (go_at_call 49; (with_reducible refine (reader_uint.calls k ra A c l 5 1 x_5 y_5 _ R5.br (Kd.C_below hC R5.below) hc hq5).mono ?_); rintro en w' (⟨hne, _, _⟩ | ⟨_, rfl, hd⟩); exact absurd hne hy5))
    have h := h'.out
    subst h
    exact ⟨rfl, (R5.drawn hd).only, .inr ⟨_, rfl, rfl, hy5⟩⟩
  go_wp2_with (first | (go_at_call 49; (with_reducible refine (reader_uint.calls k ra A c l 5 1 x_5 y_5 _ R5.br (Kd.C_below hC R5.below) hc hq5).mono ?_); rintro en w7 (⟨_, rfl, hd⟩ | ⟨hne, _, _⟩); rotate_left; (exact absurd hy5 hne); have R6 := R5.read (p' := 6) l0 (.inr rfl) _ hd (by unfold wrap64; omega); have n1 := Aside0.mk (RS.far B1.out hr1 hd); clear B1 hd; have B1 := n1; clear n1; have hcg : w7.cell? ⟨g, 6, none⟩ = some (.int .i64 0) := (blk_cell B1.out 6).trans rfl; have hzg := blk_frozen B1.out 6))
  clear hcg hzg
  replace R6 := R6.store l1 (.inl rfl) hr1 6 (.int .i64 x_5)
  replace B1 := Aside0.mk (blk_put (cs' := #[.int .i64 x_0, .int .i64 x_1, .int .i64 x_2, .int .i64 x_3, .int .i64 x_4, .slice none 0 0, .int .i64 x_5, .int .i64 0, .bool false, .bool false, .bool false, .bool false, .bool false, .bool false, .bool false, .bool false, .slice none 0 0, .int .i64 0, .int .i64 0]) B1.out 6 (.int .i64 x_5) rfl)
  cases hq6 : marker_ReadUint.f k l 6 1 with
  | none => have h := H.out; simp [codRead, rdn, hq0, hy0, hq1, hy1, hq2, hy2, hq3, hy3, hq4, hy4, hq5, hy5, hq6] at h
  | some q6 =>
  obtain ⟨x_6, y_6⟩ := q6
  by_cases hy6 : y_6 = 0
  rotate_left
  · have h := H.out
    simp [codRead, rdn, badCod, hq0, hy0, hq1, hy1, hq2, hy2, hq3, hy3, hq4, hy4, hq5, hy5, hq6, hy6] at h
    have h' := Aside0.mk h
    clear h
    go_wp2_with (first | (go_at_call 49; (with_reducible refine (reader_uint.calls k ra A c l 6 1 x_6 y_6 _ R6.br (Kd.C_below hC R6.below) hc hq6).mono ?_); rintro en w' (⟨hne, _, _⟩ | ⟨_, rfl, hd⟩); exact absurd hne hy6))
    have h := h'.out
    subst h
    exact ⟨rfl, (R6.drawn hd).only, .inr ⟨_, rfl, rfl, hy6⟩⟩
  go_wp2_with (first | (go_at_call 49; (with_reducible refine (reader_uint.calls k ra A c l 6 1 x_6 y_6 _ R6.br (Kd.C_below hC R6.below) hc hq6).mono ?_); rintro en w8 (⟨_, rfl, hd⟩ | ⟨hne, _, _⟩); rotate_left; (exact absurd hy6 hne); have R7 := R6.read (p' := 7) l0 (.inr rfl) _ hd (by unfold wrap64; omega); have n1 := Aside0.mk (RS.far B1.out hr1 hd); clear B1 hd; have B1 := n1; clear n1; have hcg : w8.cell? ⟨g, 7, none⟩ = some (.int .i64 0) := (blk_cell B1.out 7).trans rfl; have hzg := blk_frozen B1.out 7))
  clear hcg hzg
  replace R7 := R7.store l1 (.inl rfl) hr1 7 (.int .i64 x_6)
  replace B1 := Aside0.mk (blk_put (cs' := #[.int .i64 x_0, .int .i64 x_1, .int .i64 x_2, .int .i64 x_3, .int .i64 x_4, .slice none 0 0, .int .i64 x_5, .int .i64 x_6, .bool false, .bool false, .bool false, .bool false, .bool false, .bool false, .bool false, .bool false, .slice none 0 0, .int .i64 0, .int .i64 0]) B1.out 7 (.int .i64 x_6) rfl)
  cases hq7 : marker_ReadUint.f k l 7 1 with
  | none => have h := H.out; simp [codRead, rdn, hq0, hy0, hq1, hy1, hq2, hy2, hq3, hy3, hq4, hy4, hq5, hy5, hq6, hy6, hq7] at h
  | some q7 =>
  obtain ⟨x_7, y_7⟩ := q7
  by_cases hy7 : y_7 = 0
  rotate_left
  · have h := H.out
    simp [codRead, rdn, badCod, hq0, hy0, hq1, hy1, hq2, hy2, hq3, hy3, hq4, hy4, hq5, hy5, hq6, hy6, hq7, hy7] at h
    have h' := Aside0.mk h
    clear h
    go_wp2_with (first | (go_at_call 49; (with_reducible refine (reader_uint.calls k ra A c l 7 1 x_7 y_7 _ R7.br (Kd.C_below hC R7.below) hc hq7).mono ?_); rintro en w' (⟨hne, _, _⟩ | ⟨_, rfl, hd⟩); exact absurd hne hy7))
    have h := h'.out
    subst h
    exact ⟨rfl, (R7.drawn hd).only, .inr ⟨_, rfl, rfl, hy7⟩⟩
  go_wp2_with (first | (go_at_call 49; (with_reducible refine (reader_uint.calls k ra A c l 7 1 x_7 y_7 _ R7.br (Kd.C_below hC R7.below) hc hq7).mono ?_); rintro en w9 (⟨_, rfl, hd⟩ | ⟨hne, _, _⟩); rotate_left; (exact absurd hy7 hne); have R8 := R7.read (p' := 8) l0 (.inr rfl) _ hd (by unfold wrap64; omega); have n1 := Aside0.mk (RS.far B1.out hr1 hd); clear B1 hd; have B1 := n1; clear n1))
  have hgl : g < w9.heap.size := blk_lt B1.out
  have hrl : ra < w9.heap.size := blk_lt R8.br
  have R8a := R8.alloc (Obj.cells #[.int .i64 x_7] 3)
  have BF := Aside0.mk (blk_new w9 (Obj.cells #[.int .i64 x_7] 3))
  have B2 := Aside0.mk (blk_alloc B1.out (Obj.cells #[.int .i64 x_7] 3))
  have hw9 : w1.heap.size ≤ w9.heap.size := R8.only.size
  clear B1 R8
  generalize w9.alloc (Obj.cells #[.int .i64 x_7] 3) = W10 at *
  generalize w9.heap.size = gf at *
  have hfg : gf ≠ g := by omega
  have hfr : gf ≠ ra := by omega
  have f8 : W10.cell? ⟨g, 8, none⟩ = some (.bool false) := (blk_cell B2.out 8).trans rfl
  have f9 : W10.cell? ⟨g, 9, none⟩ = some (.bool false) := (blk_cell B2.out 9).trans rfl
  have f10 : W10.cell? ⟨g, 10, none⟩ = some (.bool false) := (blk_cell B2.out 10).trans rfl
  have f11 : W10.cell? ⟨g, 11, none⟩ = some (.bool false) := (blk_cell B2.out 11).trans rfl
  have f12 : W10.cell? ⟨g, 12, none⟩ = some (.bool false) := (blk_cell B2.out 12).trans rfl
  have z8 := blk_frozen B2.out 8
  have z9 := blk_frozen B2.out 9
  have z10 := blk_frozen B2.out 10
  have z11 := blk_frozen B2.out 11
  have z12 := blk_frozen B2.out 12
  go_wp2_with (first | (go_at_call 59; (with_reducible refine (on_closure gf x_7 _ (by decide) (by decide) _ BF.out).mono ?_); rintro _ w' ⟨rfl, hq⟩; have hq' := hq.symm; clear hq; subst hq') | (go_at_call 59; fail))
  have R11 := (((((R8a.store l1 (.inl rfl) hr1 8 (.bool (flag x_7 0))).store l1 (.inl rfl) hr1 9 (.bool (flag x_7 1))).store l1 (.inl rfl) hr1 10 (.bool (flag x_7 2))).store l1 (.inl rfl) hr1 11 (.bool (flag x_7 3))).store l1 (.inl rfl) hr1 12 (.bool (flag x_7 4)))
  have B3 := Aside0.mk (blk_put (cs' := #[.int .i64 x_0, .int .i64 x_1, .int .i64 x_2, .int .i64 x_3, .int .i64 x_4, .slice none 0 0, .int .i64 x_5, .int .i64 x_6, .bool (flag x_7 0), .bool (flag x_7 1), .bool (flag x_7 2), .bool (flag x_7 3), .bool (flag x_7 4), .bool false, .bool false, .bool false, .slice none 0 0, .int .i64 0, .int .i64 0]) (blk_put (cs' := #[.int .i64 x_0, .int .i64 x_1, .int .i64 x_2, .int .i64 x_3, .int .i64 x_4, .slice none 0 0, .int .i64 x_5, .int .i64 x_6, .bool (flag x_7 0), .bool (flag x_7 1), .bool (flag x_7 2), .bool (flag x_7 3), .bool false, .bool false, .bool false, .bool false, .slice none 0 0, .int .i64 0, .int .i64 0]) (blk_put (cs' := #[.int .i64 x_0, .int .i64 x_1, .int .i64 x_2, .int .i64 x_3, .int .i64 x_4, .slice none 0 0, .int .i64 x_5, .int .i64 x_6, .bool (flag x_7 0), .bool (flag x_7 1), .bool (flag x_7 2), .bool false, .bool false, .bool false, .bool false, .bool false, .slice none 0 0, .int .i64 0, .int .i64 0]) (blk_put (cs' := #[.int .i64 x_0, .int .i64 x_1, .int .i64 x_2, .int .i64 x_3, .int .i64 x_4, .slice none 0 0, .int .i64 x_5, .int .i64 x_6, .bool (flag x_7 0), .bool (flag x_7 1), .bool false, .bool false, .bool false, .bool false, .bool false, .bool false, .slice none 0 0, .int .i64 0, .int .i64 0]) (blk_put (cs' := #[.int .i64 x_0, .int .i64 x_1, .int .i64 x_2, .int .i64 x_3, .int .i64 x_4, .slice none 0 0, .int .i64 x_5, .int .i64 x_6, .bool (flag x_7 0), .bool false, .bool false, .bool false, .bool false, .bool false, .bool false, .bool false, .slice none 0 0, .int .i64 0, .int .i64 0]) B2.out 8 (.bool (flag x_7 0)) rfl) 9 (.bool (flag x_7 1)) rfl) 10 (.bool (flag x_7 2)) rfl) 11 (.bool (flag x_7 3)) rfl) 12 (.bool (flag x_7 4)) rfl)
  have BF1 := Aside0.mk (blk_far (blk_far (blk_far (blk_far (blk_far BF.out (p := ⟨g, 8, none⟩) hfg (.bool (flag x_7 0))) (p := ⟨g, 9, none⟩) hfg (.bool (flag x_7 1))) (p := ⟨g, 10, none⟩) hfg (.bool (flag x_7 2))) (p := ⟨g, 11, none⟩) hfg (.bool (flag x_7 3))) (p := ⟨g, 12, none⟩) hfg (.bool (flag x_7 4)))
  clear f8 z8 f9 z9 f10 z10 f11 z11 f12 z12 R8a B2 BF
  generalize (((((W10.setCell ⟨g, 8, none⟩ (.bool (flag x_7 0))).setCell ⟨g, 9, none⟩ (.bool (flag x_7 1))).setCell ⟨g, 10, none⟩ (.bool (flag x_7 2))).setCell ⟨g, 11, none⟩ (.bool (flag x_7 3))).setCell ⟨g, 12, none⟩ (.bool (flag x_7 4))) = W11 at *
  have BF := BF1
  clear BF1
  have f13 : W11.cell? ⟨g, 13, none⟩ = some (.bool false) := (blk_cell B3.out 13).trans rfl
  have f14 : W11.cell? ⟨g, 14, none⟩ = some (.bool false) := (blk_cell B3.out 14).trans rfl
  have f15 : W11.cell? ⟨g, 15, none⟩ = some (.bool false) := (blk_cell B3.out 15).trans rfl
  have z13 := blk_frozen B3.out 13
  have z14 := blk_frozen B3.out 14
  have z15 := blk_frozen B3.out 15
  go_wp2_with (first | (go_at_call 59; (with_reducible refine (on_closure gf x_7 _ (by decide) (by decide) _ BF.out).mono ?_); rintro _ w' ⟨rfl, hq⟩; have hq' := hq.symm; clear hq; subst hq'))
  have R12 := (((R11.store l1 (.inl rfl) hr1 13 (.bool (flag x_7 5))).store l1 (.inl rfl) hr1 14 (.bool (flag x_7 6))).store l1 (.inl rfl) hr1 15 (.bool (flag x_7 7)))
  have B4 := Aside0.mk (blk_put (cs' := #[.int .i64 x_0, .int .i64 x_1, .int .i64 x_2, .int .i64 x_3, .int .i64 x_4, .slice none 0 0, .int .i64 x_5, .int .i64 x_6, .bool (flag x_7 0), .bool (flag x_7 1), .bool (flag x_7 2), .bool (flag x_7 3), .bool (flag x_7 4), .bool (flag x_7 5), .bool (flag x_7 6), .bool (flag x_7 7), .slice none 0 0, .int .i64 0, .int .i64 0]) (blk_put (cs' := #[.int .i64 x_0, .int .i64 x_1, .int .i64 x_2, .int .i64 x_3, .int .i64 x_4, .slice none 0 0, .int .i64 x_5, .int .i64 x_6, .bool (flag x_7 0), .bool (flag x_7 1), .bool (flag x_7 2), .bool (flag x_7 3), .bool (flag x_7 4), .bool (flag x_7 5), .bool (flag x_7 6), .bool false, .slice none 0 0, .int .i64 0, .int .i64 0]) (blk_put (cs' := #[.int .i64 x_0, .int .i64 x_1, .int .i64 x_2, .int .i64 x_3, .int .i64 x_4, .slice none 0 0, .int .i64 x_5, .int .i64 x_6, .bool (flag x_7 0), .bool (flag x_7 1), .bool (flag x_7 2), .bool (flag x_7 3), .bool (flag x_7 4), .bool (flag x_7 5), .bool false, .bool false, .slice none 0 0, .int .i64 0, .int .i64 0]) B3.out 13 (.bool (flag x_7 5)) rfl) 14 (.bool (flag x_7 6)) rfl) 15 (.bool (flag x_7 7)) rfl)
  clear f13 z13 f14 z14 f15 z15 R11 B3 BF
  generalize (((W11.setCell ⟨g, 13, none⟩ (.bool (flag x_7 5))).setCell ⟨g, 14, none⟩ (.bool (flag x_7 6))).setCell ⟨g, 15, none⟩ (.bool (flag x_7 7))) = W12 at *
  have B1 := B4
  clear B4
  cases hq8 : marker_ReadUint.f k l 8 1 with
  | none => have h := H.out; simp [codRead, rdn, hq0, hy0, hq1, hy1, hq2, hy2, hq3, hy3, hq4, hy4, hq5, hy5, hq6, hy6, hq7, hy7, hq8] at h
  | some q8 =>
  obtain ⟨x_8, y_8⟩ := q8
  by_cases hy8 : y_8 = 0
  rotate_left
  · have h := H.out
    simp [codRead, rdn, badCod, hq0, hy0, hq1, hy1, hq2, hy2, hq3, hy3, hq4, hy4, hq5, hy5, hq6, hy6, hq7, hy7, hq8, hy8] at h
    have h' := Aside0.mk h
    clear h
    go_wp2_with (first | (go_at_call 49; (with_reducible refine (reader_uint.calls k ra A c l 8 1 x_8 y_8 _ R12.br (Kd.C_below hC R12.below) hc hq8).mono ?_); rintro en w' (⟨hne, _, _⟩ | ⟨_, rfl, hd⟩); exact absurd hne hy8))
    have h := h'.out
    subst h
    exact ⟨rfl, (R12.drawn hd).only, .inr ⟨_, rfl, rfl, hy8⟩⟩
  go_wp2_with (first | (go_at_call 49; (with_reducible refine (reader_uint.calls k ra A c l 8 1 x_8 y_8 _ R12.br (Kd.C_below hC R12.below) hc hq8).mono ?_); rintro en w11 (⟨_, rfl, hd⟩ | ⟨hne, _, _⟩); rotate_left; (exact absurd hy8 hne); have R9 := R12.read (p' := 9) l0 (.inr rfl) _ hd (by unfold wrap64; omega); have n1 := Aside0.mk (RS.far B1.out hr1 hd); clear B1 hd; have B1 := n1; clear n1; have hcg : w11.cell? ⟨g, 18, none⟩ = some (.int .i64 0) := (blk_cell B1.out 18).trans rfl; have hzg := blk_frozen B1.out 18))
  clear hcg hzg
  replace R9 := R9.store l1 (.inl rfl) hr1 18 (.int .i64 x_8)
  replace B1 := Aside0.mk (blk_put (cs' := #[.int .i64 x_0, .int .i64 x_1, .int .i64 x_2, .int .i64 x_3, .int .i64 x_4, .slice none 0 0, .int .i64 x_5, .int .i64 x_6, .bool (flag x_7 0), .bool (flag x_7 1), .bool (flag x_7 2), .bool (flag x_7 3), .bool (flag x_7 4), .bool (flag x_7 5), .bool (flag x_7 6), .bool (flag x_7 7), .slice none 0 0, .int .i64 0, .int .i64 x_8]) B1.out 18 (.int .i64 x_8) rfl)
  cases hq9 : marker_ReadUint.f k l 9 1 with
  | none => have h := H.out; simp [codRead, rdn, hq0, hy0, hq1, hy1, hq2, hy2, hq3, hy3, hq4, hy4, hq5, hy5, hq6, hy6, hq7, hy7, hq8, hy8, hq9] at h
  | some q9 =>
  obtain ⟨x_9, y_9⟩ := q9
  by_cases hy9 : y_9 = 0
  rotate_left
  · have h := H.out
    simp [codRead, rdn, badCod, hq0, hy0, hq1, hy1, hq2, hy2, hq3, hy3, hq4, hy4, hq5, hy5, hq6, hy6, hq7, hy7, hq8, hy8, hq9, hy9] at h
    have h' := Aside0.mk h
    clear h
    go_wp2_with (first | (go_at_call 49; (with_reducible refine (reader_uint.calls k ra A c l 9 1 x_9 y_9 _ R9.br (Kd.C_below hC R9.below) hc hq9).mono ?_); rintro en w' (⟨hne, _, _⟩ | ⟨_, rfl, hd⟩); exact absurd hne hy9))
    have h := h'.out
    subst h
    exact ⟨rfl, (R9.drawn hd).only, .inr ⟨_, rfl, rfl, hy9⟩⟩
  go_wp2_with (first | (go_at_call 49; (with_reducible refine (reader_uint.calls k ra A c l 9 1 x_9 y_9 _ R9.br (Kd.C_below hC R9.below) hc hq9).mono ?_); rintro en w12 (⟨_, rfl, hd⟩ | ⟨hne, _, _⟩); rotate_left; (exact absurd hy9 hne); have R10 := R9.read (p' := 10) l0 (.inr rfl) _ hd (by unfold wrap64; omega); have n1 := Aside0.mk (RS.far B1.out hr1 hd); clear B1 hd; have B1 := n1; clear n1))
  cases hsl : codLoop k l 10 x_9 [] with
  | none => have h := H.out; simp [codRead, rdn, hq0, hy0, hq1, hy1, hq2, hy2, hq3, hy3, hq4, hy4, hq5, hy5, hq6, hy6, hq7, hy7, hq8, hy8, hq9, hy9, hsl] at h
  | some t =>
  have HT := Aside0.mk (show (if t.1 = 0 then ⟨0, x_0, x_1, x_2, x_3, x_4, x_5, x_6, x_7, x_8, t.2.1, t.2.2⟩ else badCod t.1) = z by have h := H.out; simpa [codRead, rdn, hq0, hy0, hq1, hy1, hq2, hy2, hq3, hy3, hq4, hy4, hq5, hy5, hq6, hy6, hq7, hy7, hq8, hy8, hq9, hy9, hsl] using h)
  have HSL := Aside0.mk hsl
  clear hsl H hq0 hy0 hq1 hy1 hq2 hy2 hq3 hy3 hq4 hy4 hq5 hy5 hq6 hy6 hq7 hy7 hq8 hy8 hq9 hy9
  have hsz8 : w1.heap.size ≤ w12.heap.size := R10.only.size
  have HR0 := Aside0.mk (Kd.R_nil k89 89 w12 wb.heap.size (fun k => w1.heap.size ≤ k))
  go_loopg [5] k (fun kq v5 w' => ∃ (n p : Int) (ys : List S89) (v : Value), v5 = .int .i64 n ∧ Aside0 (codLoop kq l p n ys = some t) ∧ RS (fun k => k = g ∨ k = ra) wb w1 ra A l.length c p w' ∧ Aside0 (w'.heap[g]? = some (.cells #[.int .i64 x_0, .int .i64 x_1, .int .i64 x_2, .int .i64 x_3, .int .i64 x_4, v, .int .i64 x_5, .int .i64 x_6, .bool (flag x_7 0), .bool (flag x_7 1), .bool (flag x_7 2), .bool (flag x_7 3), .bool (flag x_7 4), .bool (flag x_7 5), .bool (flag x_7 6), .bool (flag x_7 7), .slice none 0 0, .int .i64 0, .int .i64 x_8] 55 (0, 0))) ∧ Aside0 (Kd.R k89 89 w' wb.heap.size (fun k => w1.heap.size ≤ k) v ys))
  case atStart => exact ⟨x_9, 10, [], _, rfl, HSL, R10, B1, HR0⟩
  case round =>
    clear HSL R10 B1 HR0 hsz8
    obtain ⟨n, p, ys, v, rfl, HS, R, B1, HR⟩ := hrel
    cases gk with
    | zero => exact absurd HS.out (by simp [codLoop])
    | succ kk =>
    have hs := HS.out
    clear HS
    rw [codLoop.eq_2] at hs
    by_cases hn : n > 0
    rotate_left
    · rw [if_neg hn] at hs
      have hn0 : decide (0 < n) = false := decide_eq_false hn
      obtain rfl : (0, ys, p) = t := Option.some.inj hs
      have ht := HT.out
      simp only [if_true] at ht
      subst ht
      clear hs HT
      go_wp2
      go_end0
      first | exact ⟨R.only, .inl ⟨_, rfl, R.br, rfl, rfl, v, B1.out, HR.out⟩⟩ | exact ⟨R.only, rfl, _, R.br, rfl, v, B1.out, HR.out⟩
    rw [if_pos hn] at hs
    have hn1 : decide (0 < n) = true := decide_eq_true hn
    by_cases hlim : ys.length < 8796093022207
    rotate_left
    · rw [if_neg hlim] at hs; exact absurd hs (by simp)
    rw [if_pos hlim] at hs
    have HLIM := Aside0.mk hlim
    clear hlim
    (try simp only [rdn] at hs)
    cases hq10 : marker_ReadUint.f kk l p 1 with
    | none => rw [hq10] at hs; exact absurd hs (by simp)
    | some q10 =>
    obtain ⟨x_10, y_10⟩ := q10
    rw [hq10] at hs
    simp only [Option.bind_some] at hs
    by_cases hy10 : y_10 = 0
    rotate_left
    · rw [if_neg hy10] at hs
      obtain rfl : (y_10, [], 0) = t := Option.some.inj hs
      have ht := HT.out
      rw [if_neg hy10] at ht
      subst ht
      clear hs HT
      go_wp2_with (go_at_call 49; (with_reducible refine (reader_uint.calls kk ra A c l p 1 x_10 y_10 _ R.br (Kd.C_below hC R.below) hc hq10).mono ?_); rintro en w' (⟨hne, _, _⟩ | ⟨_, rfl, hd⟩); exact absurd hne hy10)
      exact ⟨rfl, (R.drawn hd).only, .inr ⟨_, rfl, rfl, hy10⟩⟩
    rw [if_pos hy10] at hs
    have hs' := Aside0.mk hs
    clear hs
    obtain ⟨A0, c0, rfl⟩ := Kd.R_slice HR.out
    go_wp2_with (first | (go_at_call 49; (with_reducible refine (reader_uint.calls kk ra A c l p 1 x_10 y_10 _ R.br (Kd.C_below hC R.below) hc hq10).mono ?_); rintro en w13 (⟨_, rfl, hd⟩ | ⟨hne, _, _⟩); rotate_left; (exact absurd hy10 hne); have R1 := R.read (p' := wrap64 (p + 1)) l0 (.inr rfl) _ hd rfl; have n1 := Aside0.mk (RS.far B1.out hr1 hd); have n2 := Aside0.mk (RS.readR HR.out (fun k hk => by omega) hd); clear B1 HR hd R; have B1 := n1; have HR := n2; clear n1 n2; have h5 : w13.cell? ⟨g, 5, none⟩ = some (.slice A0 ys.length c0) := (blk_cell B1.out 5).trans rfl; have z5 := blk_frozen B1.out 5) | ((with_reducible refine gate_builtin (b := .append) (xs := #[.tmp 64, .tmp 70]) rfl ?_); at_builtin; refine Kd.R_append k89 (w0 := wb) wb.heap.size rfl (.tmp 64) (.tmp 70) 50 89 (.agg #[.int .i64 0, .int .i64 0]) 16 rfl Try.underlying50 info89 rfl (by decide) (by omega) (.slice A0 ys.length c0) ys (⟨Go.bits .and .i64 x_10 15, x_10 / 16⟩ : S89) [.int .i64 (Go.bits .and .i64 x_10 15), .int .i64 (x_10 / 16)] (fun k => w1.heap.size ≤ k) (fun _ => False) rfl rfl ?aP (fun _ hk => hk.elim) ?aF ?aO ?aB ?aS ?aL ?_; (case aP => exact k89_mkM _ _ _ (⟨Go.bits .and .i64 x_10 15, x_10 / 16⟩ : S89)); (case aF => exact fun k hk => Nat.le_trans R1.only.size hk); (case aO => exact HR.out); (case aB => exact R1.below); (case aS => exact R1.below.size); (case aL => have := HLIM.out; omega); intro v2 w14 ho hb hg hat; obtain ⟨A2, c2, rfl⟩ := Kd.R_slice ho; have R2 := R1.grown hb hg HR.out.1 hlr; have B2 := Aside0.mk (blk_grown B1.out hg (fun he => by have := HR.out.1 g he.symm; omega)); have HR2 := Aside0.mk ho; clear ho hb hg hat h5 z5; have h5 : w14.cell? ⟨g, 5, none⟩ = some (.slice A0 ys.length c0) := (blk_cell B2.out 5).trans rfl; have z5 := blk_frozen B2.out 5))
    have hs := hs'.out
    clear hs' h5 z5
    go_roundg kk
    case measure => omega
    case rel => exact ⟨_, _, ys ++ [(⟨Go.bits .and .i64 x_10 15, x_10 / 16⟩ : S89)], _, rfl, ⟨hs⟩, R2.store l1 (.inl rfl) hr1 5 _, ⟨blk_put B2.out 5 _ rfl⟩, ⟨by have h6 := Kd.R_far (p := ⟨g, 5, none⟩) HR2.out (fun k hk => by show k ≠ g; omega) (.slice A2 (ys.length + 1) c2); simpa using h6⟩⟩

def headseg_ParseCoding.f (k : Nat) (a0_0 : Int) (l0_1 : List Int) : Option (Int × Int × Int × Int × Int × (List (S89)) × Int × Int × Bool × Bool × Bool × Bool × Bool × Bool × Bool × Bool × List Int × Int × Int × Int) :=
  (codRead k l0_1).bind fun z => some (if a0_0 = 65442 then (if z.e = 0 then (if z.p < (l0_1.length : Int) then (0, 0, 0, 0, 0, [], 0, 0, false, false, false, false, false, false, false, false, [], 0, 0, 9) else (z.x0, z.x1, z.x2, z.x3, z.x4, z.t, z.x5, z.x6, flag z.f 0, flag z.f 1, flag z.f 2, flag z.f 3, flag z.f 4, flag z.f 5, flag z.f 6, flag z.f 7, [], 0, z.sh, 0)) else (0, 0, 0, 0, 0, [], 0, 0, false, false, false, false, false, false, false, false, [], 0, 0, z.e)) else (0, 0, 0, 0, 0, [], 0, 0, false, false, false, false, false, false, false, false, [], 0, 0, 11))
theorem headseg_ParseCoding.mono : ∀ a0 a1 k, LeO (headseg_ParseCoding.f k a0 a1) (headseg_ParseCoding.f (k + 1) a0 a1) := by
  intro a0 a1 k
  exact LeO.bind (codRead.mono k a1) (fun _ => LeO.refl _)
set_option maxHeartbeats 8000000 in
set_option maxRecDepth 100000 in
theorem headseg_ParseCoding.calls (k : Nat) (a0_0 : Int) (A0_1 : Option Addr) (c0_1 : Nat) (l0_1 : List Int) (r1 : Int) (r2 : Int) (r3 : Int) (r4 : Int) (r5 : Int) (r6 : List (S89)) (r7 : Int) (r8 : Int) (r9 : Bool) (r10 : Bool) (r11 : Bool) (r12 : Bool) (r13 : Bool) (r14 : Bool) (r15 : Bool) (r16 : Bool) (r17 : List Int) (r18 : Int) (r19 : Int) (r20 : Int) (w : World) (hr0_1 : Kd.C (Kd.int .u8) w A0_1 l0_1.length l0_1) (hc0_1 : l0_1.length ≤ c0_1) (h : headseg_ParseCoding.f k a0_0 l0_1 = some (r1, r2, r3, r4, r5, r6, r7, r8, r9, r10, r11, r12, r13, r14, r15, r16, r17, r18, r19, r20)) :
    Calls Try.prog 35 #[.agg #[.int .i64 a0_0, .slice A0_1 l0_1.length c0_1]] w fun e w' => ∃ v5_ v16_ : Value, e = .returned (.tuple #[.agg #[.int .i64 r1, .int .i64 r2, .int .i64 r3, .int .i64 r4, .int .i64 r5, v5_, .int .i64 r7, .int .i64 r8, .bool r9, .bool r10, .bool r11, .bool r12, .bool r13, .bool r14, .bool r15, .bool r16, v16_, .int .i64 r18, .int .i64 r19], .int .i64 r20]) ∧ Kd.R k89 89 w' w.heap.size (fun _ => True) v5_ r6 ∧ Kd.R (Kd.int .i64) 3 w' w.heap.size (fun _ => True) v16_ r17 ∧ Below w.heap.size w w' := by
  cases ht : codRead k l0_1 with
  | none => simp [headseg_ParseCoding.f, ht] at h
  | some z =>
  simp only [headseg_ParseCoding.f, ht, Option.bind_some, Option.some.injEq] at h
  have H := Aside0.mk h
  have HT := Aside0.mk ht
  have HR := Aside0.mk hr0_1
  have HC := Aside0.mk hc0_1
  clear h ht hr0_1 hc0_1
  have hmf : ∀ (fn : Fn) (first cap : Array Value) (w : World), (Instr.makeFunc fn first cap).run Try.prog w = .ok (.func fn first cap) w := fun _ _ _ _ => rfl
  have K00 := Aside0.mk (Bks.nil w)
  go_enter Try.func35, Try.ntmps35
  go_wp2_with (first
    | ((with_reducible refine gate_dst (N := 1) rfl ?_); refine box_event ?hg (N := 1) ?hd (cs := #[.int .i64 a0_0, .slice A0_1 l0_1.length c0_1]) (t := 26) ?hr ?_; (case hd => rfl); (case hg => rfl); (case hr => first | (go_simp; done) | (go_simp; rfl)); intro g1 hg W1 hbox hb; have K0 := Aside0.mk (K00.out.box (Nat.le_refl _) hg hbox hb); clear hg hbox hb K00)
    | ((with_reducible refine gate_dst (N := 2) rfl ?_); refine box_event ?hg (N := 2) ?hd (cs := #[.int .i64 0, .int .i64 0, .int .i64 0, .int .i64 0, .int .i64 0, .slice none 0 0, .int .i64 0, .int .i64 0, .bool false, .bool false, .bool false, .bool false, .bool false, .bool false, .bool false, .bool false, .slice none 0 0, .int .i64 0, .int .i64 0]) (t := 55) ?hr ?_; (case hd => rfl); (case hg => rfl); (case hr => first | (go_simp; done) | (go_simp; rfl)); intro g2 hg W2 hbox hb; have K1 := Aside0.mk (K0.out.box (below_size K0.out.below) hg hbox hb); clear hg hbox hb K0)
    | ((with_reducible refine gate_dst (N := 4) rfl ?_); refine box_event ?hg (N := 4) ?hd (cs := #[.int .i64 0, .int .i64 0, .int .i64 0, .int .i64 0, .int .i64 0, .slice none 0 0, .int .i64 0, .int .i64 0, .bool false, .bool false, .bool false, .bool false, .bool false, .bool false, .bool false, .bool false, .slice none 0 0, .int .i64 0, .int .i64 0]) (t := 55) ?hr ?_; (case hd => rfl); (case hg => rfl); (case hr => first | (go_simp; done) | (go_simp; rfl)); intro g4 hg W4 hbox hb; have K8 := Aside0.mk (K1.out.box (below_size K1.out.below) hg hbox hb); clear hg hbox hb K1)
    | ((with_reducible refine gate_dst (N := 6) rfl ?_); refine load_ev rfl 26 (.tmp 1) rfl rfl (K8.out.get 2 rfl) Try.underlying26 rfl ?_)
    | (go_at_call 47; fail))
  generalize W4 = W10 at *
  have hl7 : g4 < W10.heap.size := blk_lt (K8.out.get 0 rfl)
  have hg7 : w.heap.size ≤ g4 := K8.out.ge 0 _ rfl
  have hwW : w.heap.size ≤ W10.heap.size := below_size K8.out.below
  have hn47 : g2 ≠ g4 := K8.out.ne 1 0 _ _ (by decide) rfl rfl
  refine (parse.calls 58 (fun _ _ => by simp [go_sem]) #[.pointer (some ⟨g4, 0, none⟩)] (fun ra => #[.pointer (some ⟨ra, 0, none⟩), .pointer (some ⟨g4, 0, none⟩)]) (fun _ => by simp) (fun k => k = g4) a0_0 65442 A0_1 c0_1 l0_1 W10 (Kd.C_below HR.out K8.out.below) HC.out
    (fun p w2 => z.e = 0 ∧ p = z.p ∧ ∃ v, w2.heap[g4]? = some (.cells #[.int .i64 z.x0, .int .i64 z.x1, .int .i64 z.x2, .int .i64 z.x3, .int .i64 z.x4, v, .int .i64 z.x5, .int .i64 z.x6, .bool (flag z.f 0), .bool (flag z.f 1), .bool (flag z.f 2), .bool (flag z.f 3), .bool (flag z.f 4), .bool (flag z.f 5), .bool (flag z.f 6), .bool (flag z.f 7), .slice none 0 0, .int .i64 0, .int .i64 z.sh] 55 (0, 0)) ∧ Kd.R k89 89 w2 w.heap.size (fun k => W10.heap.size + 3 ≤ k) v z.t)
    (fun e' w2 => e' = z.e ∧ z.e ≠ 0) (fun k hk => by omega) ?ok ?err ?cl).mono ?_
  case ok => exact fun p u1 u2 ⟨q1, q2, v, q3, q4⟩ ho => ⟨q1, q2, v, ho.blk q3 (by omega), Kd.R_step q4 (fun k hk hlt => ho.block k hlt (by omega))⟩
  case err => exact fun p u1 u2 q ho => q
  case cl => exact fun w1 hb1 hra hbr => (cod_closure k w w1 A0_1 c0_1 l0_1 HR.out HC.out (W10.heap.size + 2) g4 (by omega) (by omega) (by omega) (by omega) (by omega) (K8.out.below.trans (hb1.mono (by omega))) hbr (by rw [hb1.block g4 (by omega)]; exact K8.out.get 0 rfl) z HT.out).mono (fun en w2 ⟨q1, q2⟩ => ⟨q1, q2.imp (fun ⟨p, p1, p2, p3, p4, v, p5, p6⟩ => ⟨p, p1, p2, p3, p4, v, p5, Kd.R_mono p6 (fun k hk => by omega)⟩) id⟩)
  rintro en w2 ⟨y, rfl, ho, hcase⟩
  have HB2 := Aside0.mk (K8.out.below.trans (ho.below (B := w.heap.size) (by omega) (fun k hk => by omega)))
  have BZ := Aside0.mk (ho.blk (K8.out.get 1 rfl) hn47)
  have hg4 : w.heap.size ≤ g2 := K8.out.ge 1 _ rfl
  have hcase' : (y ≠ 0 ∧ (r1, r2, r3, r4, r5, r6, r7, r8, r9, r10, r11, r12, r13, r14, r15, r16, r17, r18, r19, r20) = (0, 0, 0, 0, 0, [], 0, 0, false, false, false, false, false, false, false, false, [], 0, 0, y)) ∨ (y = 0 ∧ (r1, r2, r3, r4, r5, r6, r7, r8, r9, r10, r11, r12, r13, r14, r15, r16, r17, r18, r19, r20) = (z.x0, z.x1, z.x2, z.x3, z.x4, z.t, z.x5, z.x6, flag z.f 0, flag z.f 1, flag z.f 2, flag z.f 3, flag z.f 4, flag z.f 5, flag z.f 6, flag z.f 7, [], 0, z.sh, 0) ∧ ∃ v, w2.heap[g4]? = some (.cells #[.int .i64 z.x0, .int .i64 z.x1, .int .i64 z.x2, .int .i64 z.x3, .int .i64 z.x4, v, .int .i64 z.x5, .int .i64 z.x6, .bool (flag z.f 0), .bool (flag z.f 1), .bool (flag z.f 2), .bool (flag z.f 3), .bool (flag z.f 4), .bool (flag z.f 5), .bool (flag z.f 6), .bool (flag z.f 7), .slice none 0 0, .int .i64 0, .int .i64 z.sh] 55 (0, 0)) ∧ Kd.R k89 89 w2 w.heap.size (fun k => W10.heap.size + 3 ≤ k) v z.t) := by
    have h := H.out
    rcases hcase with ⟨hne, rfl, h11⟩ | ⟨heq, ⟨p, ⟨hz, rfl, v, q3, q4⟩, hy⟩ | ⟨rfl, q2⟩⟩
    · rw [if_neg hne] at h
      exact .inl ⟨by decide, h.symm⟩
    · rw [if_pos heq, if_pos hz] at h
      by_cases h8 : z.p < (l0_1.length : Int)
      · rw [if_pos h8] at h hy
        subst hy
        exact .inl ⟨by decide, h.symm⟩
      · rw [if_neg h8] at h hy
        exact .inr ⟨hy, h.symm, v, q3, q4⟩
    · rw [if_pos heq, if_neg q2] at h
      exact .inl ⟨q2, h.symm⟩
  clear hcase ho H HT HR HC K8
  rcases hcase' with ⟨hy, hr⟩ | ⟨hy, hr, v, bg, hR⟩
  · have hy0 : (y == 0) = false := by simpa using hy
    have hy' : (y != 0) = true := by simpa using hy
    simp only [Prod.mk.injEq] at hr
    obtain ⟨rfl, rfl, rfl, rfl, rfl, rfl, rfl, rfl, rfl, rfl, rfl, rfl, rfl, rfl, rfl, rfl, rfl, rfl, rfl, rfl⟩ := hr
    go_wp2_with (refine store_ev rfl rfl 55 (.tmp 2) (.tmp 11) rfl rfl rfl BZ.out rfl rfl (by first | (kernel_rfl) | (simp [Value.oneCell'])) ?_; intro W8 hs; have HBx := hs.below _ _ hg4 HB2.out; have BZx := Aside0.mk hs.blk; clear hs; have RR := Aside0.mk HBx; clear HBx)
    refine bodyPost_ret (results_ct rfl _ _ g2 55 _ (0, 0) _ rfl BZx.out Try.underlying55 rfl (by kernel_rfl)) rfl ?_
    exact ⟨_, _, rfl, Kd.R_nil k89 89 _ _ _, Kd.R_nil (Kd.int .i64) 3 _ _ _, RR.out⟩
  · subst hy
    simp only [Prod.mk.injEq] at hr
    obtain ⟨rfl, rfl, rfl, rfl, rfl, rfl, rfl, rfl, rfl, rfl, rfl, rfl, rfl, rfl, rfl, rfl, rfl, rfl, rfl, rfl⟩ := hr
    obtain ⟨Ax, cx, rfl⟩ := Kd.R_slice hR
    have BG := Aside0.mk bg
    have HRx := Aside0.mk hR
    clear bg hR
    go_wp2_with (first
      | ((with_reducible refine gate_dst (N := 13) rfl ?_); refine load_ev rfl 55 (.tmp 4) rfl rfl BG.out Try.underlying55 rfl ?_)
      | (refine store_ev rfl rfl 55 (.tmp 2) (.tmp 13) rfl rfl rfl BZ.out rfl rfl (by first | (kernel_rfl) | (simp [Value.oneCell'])) ?_; intro W8 hs; have RSx := row_stored (Kd.R_mono (ok' := fun _ => True) HRx.out (fun _ _ => trivial)) BZ.out (by decide) hs; have HBx := hs.below _ _ hg4 HB2.out; have BZx := Aside0.mk hs.blk; clear hs; have RR := Aside0.mk (And.intro RSx HBx); clear RSx HBx))
    refine bodyPost_ret (results_ct rfl _ _ g2 55 _ (0, 0) _ rfl BZx.out Try.underlying55 rfl (by kernel_rfl)) rfl ?_
    exact ⟨_, _, rfl, RR.out.1, Kd.R_nil (Kd.int .i64) 3 _ _ _, RR.out.2⟩
end Go.Proofs.Ytihfopblmjgfaaa.Q

/- The reference's SameParams, of two that are alike. Printed by wip/tools/genSame.py of this session. -/
namespace Go.Proofs.Ytihfopblmjgfaaa.Q
open Go.RowKit Go.Proofs.YtihfopblmjgfaaaW.PrintWords Go.Proofs.YtihfopblmjgfaaaW.PrintLast Go.Proofs.YtihfopblmjgfaaaW.PrintMore
set_option linter.unusedVariables false
set_option linter.unusedSimpArgs false
theorem Bks.drewN {n : Nat} {w0 W : World} {l : List (Nat × Nat × Array Value)} (h : Bks n w0 W l) (m : Nat) : Bks n w0 (W.drewN m) l := ⟨h.blk, h.ne, h.ge, pw_below_drewN h.below m⟩

set_option maxHeartbeats 8000000 in
set_option maxRecDepth 100000 in
theorem waveletref23_SameParams.same (a_0 : Int) (a_1 : Int) (a_2 : Int) (a_3 : Int) (a_4 : Int) (l_5 : List S89) (a_6 : Int) (a_7 : Int) (a_8 : Bool) (a_9 : Bool) (a_10 : Bool) (a_11 : Bool) (a_12 : Bool) (a_13 : Bool) (a_14 : Bool) (a_15 : Bool) (l_16 : List Int) (a_17 : Int) (a_18 : Int) (A0_5 : Option Addr) (c0_5 : Nat) (A0_16 : Option Addr) (c0_16 : Nat) (A1_5 : Option Addr) (c1_5 : Nat) (A1_16 : Option Addr) (c1_16 : Nat) (w : World) (hr0_5 : Kd.C k89 w A0_5 l_5.length l_5) (hr0_16 : Kd.C (Kd.int .i64) w A0_16 l_16.length l_16) (hr1_5 : Kd.C k89 w A1_5 l_5.length l_5) (hr1_16 : Kd.C (Kd.int .i64) w A1_16 l_16.length l_16) :
    Calls Try.prog 32 #[.agg #[.int .i64 a_0, .int .i64 a_1, .int .i64 a_2, .int .i64 a_3, .int .i64 a_4, .slice A0_5 l_5.length c0_5, .int .i64 a_6, .int .i64 a_7, .bool a_8, .bool a_9, .bool a_10, .bool a_11, .bool a_12, .bool a_13, .bool a_14, .bool a_15, .slice A0_16 l_16.length c0_16, .int .i64 a_17, .int .i64 a_18], .agg #[.int .i64 a_0, .int .i64 a_1, .int .i64 a_2, .int .i64 a_3, .int .i64 a_4, .slice A1_5 l_5.length c1_5, .int .i64 a_6, .int .i64 a_7, .bool a_8, .bool a_9, .bool a_10, .bool a_11, .bool a_12, .bool a_13, .bool a_14, .bool a_15, .slice A1_16 l_16.length c1_16, .int .i64 a_17, .int .i64 a_18]] w fun e w' => e = .returned (.bool true) ∧ Below w.heap.size w w' := by
  have HR05 := Aside0.mk hr0_5
  have HR016 := Aside0.mk hr0_16
  have HR15 := Aside0.mk hr1_5
  have HR116 := Aside0.mk hr1_16
  have hl5 : l_5.length ≤ 9223372036854775807 := hr0_5.2.1
  have hl16 : l_16.length ≤ 9223372036854775807 := hr0_16.2.1
  have HL := Aside0.mk (And.intro hl5 hl16)
  clear hr0_5 hr0_16 hr1_5 hr1_16 hl5 hl16
  have K00 := Aside0.mk (Bks.nil w)
  have hu89 := Try.underlying89
  go_enter Try.func32, Try.ntmps32
  go_wp2_with (first
    | ((with_reducible refine gate_dst (N := 2) rfl ?_); refine box_event ?hg (N := 2) ?hd (cs := #[.int .i64 a_0, .int .i64 a_1, .int .i64 a_2, .int .i64 a_3, .int .i64 a_4, .slice A0_5 l_5.length c0_5, .int .i64 a_6, .int .i64 a_7, .bool a_8, .bool a_9, .bool a_10, .bool a_11, .bool a_12, .bool a_13, .bool a_14, .bool a_15, .slice A0_16 l_16.length c0_16, .int .i64 a_17, .int .i64 a_18]) (t := 55) ?hr ?_; (case hd => rfl); (case hg => rfl); (case hr => first | (go_simp; done) | (go_simp; rfl)); intro g2 hg W2 hbox hb; have K0 := Aside0.mk (K00.out.box (Nat.le_refl _) hg hbox hb); clear hg hbox hb K00)
    | ((with_reducible refine gate_dst (N := 3) rfl ?_); refine box_event ?hg (N := 3) ?hd (cs := #[.int .i64 a_0, .int .i64 a_1, .int .i64 a_2, .int .i64 a_3, .int .i64 a_4, .slice A1_5 l_5.length c1_5, .int .i64 a_6, .int .i64 a_7, .bool a_8, .bool a_9, .bool a_10, .bool a_11, .bool a_12, .bool a_13, .bool a_14, .bool a_15, .slice A1_16 l_16.length c1_16, .int .i64 a_17, .int .i64 a_18]) (t := 55) ?hr ?_; (case hd => rfl); (case hg => rfl); (case hr => first | (go_simp; done) | (go_simp; rfl)); intro g3 hg W3 hbox hb; have K1 := Aside0.mk (K0.out.box (below_size K0.out.below) hg hbox hb); clear hg hbox hb K0; have f0_0 : W3.cell? ⟨g2, 0, none⟩ = some (.int .i64 a_0) := K1.out.cell 1 rfl 0 rfl; have f0_1 : W3.cell? ⟨g2, 1, none⟩ = some (.int .i64 a_1) := K1.out.cell 1 rfl 1 rfl; have f0_2 : W3.cell? ⟨g2, 2, none⟩ = some (.int .i64 a_2) := K1.out.cell 1 rfl 2 rfl; have f0_3 : W3.cell? ⟨g2, 3, none⟩ = some (.int .i64 a_3) := K1.out.cell 1 rfl 3 rfl; have f0_4 : W3.cell? ⟨g2, 4, none⟩ = some (.int .i64 a_4) := K1.out.cell 1 rfl 4 rfl; have f0_5 : W3.cell? ⟨g2, 5, none⟩ = some (.slice A0_5 l_5.length c0_5) := K1.out.cell 1 rfl 5 rfl; have f0_6 : W3.cell? ⟨g2, 6, none⟩ = some (.int .i64 a_6) := K1.out.cell 1 rfl 6 rfl; have f0_7 : W3.cell? ⟨g2, 7, none⟩ = some (.int .i64 a_7) := K1.out.cell 1 rfl 7 rfl; have f0_8 : W3.cell? ⟨g2, 8, none⟩ = some (.bool a_8) := K1.out.cell 1 rfl 8 rfl; have f0_9 : W3.cell? ⟨g2, 9, none⟩ = some (.bool a_9) := K1.out.cell 1 rfl 9 rfl; have f0_10 : W3.cell? ⟨g2, 10, none⟩ = some (.bool a_10) := K1.out.cell 1 rfl 10 rfl; have f0_11 : W3.cell? ⟨g2, 11, none⟩ = some (.bool a_11) := K1.out.cell 1 rfl 11 rfl; have f0_12 : W3.cell? ⟨g2, 12, none⟩ = some (.bool a_12) := K1.out.cell 1 rfl 12 rfl; have f0_13 : W3.cell? ⟨g2, 13, none⟩ = some (.bool a_13) := K1.out.cell 1 rfl 13 rfl; have f0_14 : W3.cell? ⟨g2, 14, none⟩ = some (.bool a_14) := K1.out.cell 1 rfl 14 rfl; have f0_15 : W3.cell? ⟨g2, 15, none⟩ = some (.bool a_15) := K1.out.cell 1 rfl 15 rfl; have f0_16 : W3.cell? ⟨g2, 16, none⟩ = some (.slice A0_16 l_16.length c0_16) := K1.out.cell 1 rfl 16 rfl; have f0_17 : W3.cell? ⟨g2, 17, none⟩ = some (.int .i64 a_17) := K1.out.cell 1 rfl 17 rfl; have f0_18 : W3.cell? ⟨g2, 18, none⟩ = some (.int .i64 a_18) := K1.out.cell 1 rfl 18 rfl; have f1_0 : W3.cell? ⟨g3, 0, none⟩ = some (.int .i64 a_0) := K1.out.cell 0 rfl 0 rfl; have f1_1 : W3.cell? ⟨g3, 1, none⟩ = some (.int .i64 a_1) := K1.out.cell 0 rfl 1 rfl; have f1_2 : W3.cell? ⟨g3, 2, none⟩ = some (.int .i64 a_2) := K1.out.cell 0 rfl 2 rfl; have f1_3 : W3.cell? ⟨g3, 3, none⟩ = some (.int .i64 a_3) := K1.out.cell 0 rfl 3 rfl; have f1_4 : W3.cell? ⟨g3, 4, none⟩ = some (.int .i64 a_4) := K1.out.cell 0 rfl 4 rfl; have f1_5 : W3.cell? ⟨g3, 5, none⟩ = some (.slice A1_5 l_5.length c1_5) := K1.out.cell 0 rfl 5 rfl; have f1_6 : W3.cell? ⟨g3, 6, none⟩ = some (.int .i64 a_6) := K1.out.cell 0 rfl 6 rfl; have f1_7 : W3.cell? ⟨g3, 7, none⟩ = some (.int .i64 a_7) := K1.out.cell 0 rfl 7 rfl; have f1_8 : W3.cell? ⟨g3, 8, none⟩ = some (.bool a_8) := K1.out.cell 0 rfl 8 rfl; have f1_9 : W3.cell? ⟨g3, 9, none⟩ = some (.bool a_9) := K1.out.cell 0 rfl 9 rfl; have f1_10 : W3.cell? ⟨g3, 10, none⟩ = some (.bool a_10) := K1.out.cell 0 rfl 10 rfl; have f1_11 : W3.cell? ⟨g3, 11, none⟩ = some (.bool a_11) := K1.out.cell 0 rfl 11 rfl; have f1_12 : W3.cell? ⟨g3, 12, none⟩ = some (.bool a_12) := K1.out.cell 0 rfl 12 rfl; have f1_13 : W3.cell? ⟨g3, 13, none⟩ = some (.bool a_13) := K1.out.cell 0 rfl 13 rfl; have f1_14 : W3.cell? ⟨g3, 14, none⟩ = some (.bool a_14) := K1.out.cell 0 rfl 14 rfl; have f1_15 : W3.cell? ⟨g3, 15, none⟩ = some (.bool a_15) := K1.out.cell 0 rfl 15 rfl; have f1_16 : W3.cell? ⟨g3, 16, none⟩ = some (.slice A1_16 l_16.length c1_16) := K1.out.cell 0 rfl 16 rfl; have f1_17 : W3.cell? ⟨g3, 17, none⟩ = some (.int .i64 a_17) := K1.out.cell 0 rfl 17 rfl; have f1_18 : W3.cell? ⟨g3, 18, none⟩ = some (.int .i64 a_18) := K1.out.cell 0 rfl 18 rfl))
  clear f0_0 f0_1 f0_2 f0_3 f0_4 f0_5 f0_6 f0_7 f0_8 f0_9 f0_10 f0_11 f0_12 f0_13 f0_14 f0_15 f0_16 f0_17 f0_18 f1_0 f1_1 f1_2 f1_3 f1_4 f1_5 f1_6 f1_7 f1_8 f1_9 f1_10 f1_11 f1_12 f1_13 f1_14 f1_15 f1_16 f1_17 f1_18
  go_loopg [5] l_5.length (fun kq v5 w' => ∃ x : Int, v5 = .int .i64 x ∧ Aside0 (0 ≤ x ∧ x + kq = l_5.length) ∧ Aside0 (Bks w.heap.size w w' [(g3, 55, #[.int .i64 a_0, .int .i64 a_1, .int .i64 a_2, .int .i64 a_3, .int .i64 a_4, .slice A1_5 l_5.length c1_5, .int .i64 a_6, .int .i64 a_7, .bool a_8, .bool a_9, .bool a_10, .bool a_11, .bool a_12, .bool a_13, .bool a_14, .bool a_15, .slice A1_16 l_16.length c1_16, .int .i64 a_17, .int .i64 a_18]), (g2, 55, #[.int .i64 a_0, .int .i64 a_1, .int .i64 a_2, .int .i64 a_3, .int .i64 a_4, .slice A0_5 l_5.length c0_5, .int .i64 a_6, .int .i64 a_7, .bool a_8, .bool a_9, .bool a_10, .bool a_11, .bool a_12, .bool a_13, .bool a_14, .bool a_15, .slice A0_16 l_16.length c0_16, .int .i64 a_17, .int .i64 a_18])]))
  case atStart => exact ⟨0, rfl, ⟨by omega⟩, K1⟩
  case round =>
  clear K1
  obtain ⟨x, rfl, HI, K⟩ := hrel
  have f0_5 : wr.cell? ⟨g2, 5, none⟩ = some (.slice A0_5 l_5.length c0_5) := K.out.cell 1 rfl 5 rfl
  have f1_5 : wr.cell? ⟨g3, 5, none⟩ = some (.slice A1_5 l_5.length c1_5) := K.out.cell 0 rfl 5 rfl
  by_cases hi : x < (l_5.length : Int)
  · have hb0 : decide (x < (l_5.length : Int)) = true := decide_eq_true hi
    have hHI := HI.out
    have hw : wrap64 (x + 1) = x + 1 := by have := HL.out; unfold wrap64; omega
    cases gk with
    | zero => omega
    | succ kk =>
    have p516 : 0 ≤ x := hHI.1
    have hHI2 := Aside0.mk hHI
    clear hHI
    have q516 : x < (l_5.length : Int) := hi
    have HQ := Aside0.mk q516
    obtain ⟨ad516, e516, hx516_0, hx516_1⟩ := at_T89 (Kd.C_below HR05.out K.out.below) x p516 q516
    cases e516
    obtain ⟨ad517, e517, hx517_0, hx517_1⟩ := at_T89 (Kd.C_below HR15.out K.out.below) x p516 q516
    cases e517
    replace p516 := eq_true p516
    replace q516 := eq_true q516
    clear hi
    go_wp2
    repeat (go_quiet (fail); try go_wp2)
    go_roundg kk
    case measure => omega
    case rel => exact ⟨x + 1, by first | rfl | rw [hw], ⟨by have := hHI2.out; have := HQ.out; omega⟩, ⟨by first | exact K.out | exact K.out.drewN _ | exact K.out.drew | exact (K.out.drewN _).drewN _⟩⟩
  · have hb0 : decide (x < (l_5.length : Int)) = false := decide_eq_false hi
    clear hi
    go_wp2
    clear f0_5 f1_5 hb0 HI
    go_loopg [6] l_16.length (fun kq v5 w' => ∃ x : Int, v5 = .int .i64 x ∧ Aside0 (0 ≤ x ∧ x + kq = l_16.length) ∧ Aside0 (Bks w.heap.size w w' [(g3, 55, #[.int .i64 a_0, .int .i64 a_1, .int .i64 a_2, .int .i64 a_3, .int .i64 a_4, .slice A1_5 l_5.length c1_5, .int .i64 a_6, .int .i64 a_7, .bool a_8, .bool a_9, .bool a_10, .bool a_11, .bool a_12, .bool a_13, .bool a_14, .bool a_15, .slice A1_16 l_16.length c1_16, .int .i64 a_17, .int .i64 a_18]), (g2, 55, #[.int .i64 a_0, .int .i64 a_1, .int .i64 a_2, .int .i64 a_3, .int .i64 a_4, .slice A0_5 l_5.length c0_5, .int .i64 a_6, .int .i64 a_7, .bool a_8, .bool a_9, .bool a_10, .bool a_11, .bool a_12, .bool a_13, .bool a_14, .bool a_15, .slice A0_16 l_16.length c0_16, .int .i64 a_17, .int .i64 a_18])]))
    case atStart => exact ⟨0, rfl, ⟨by omega⟩, K⟩
    case round =>
    clear K
    obtain ⟨x, rfl, HI, K⟩ := hrel
    have f0_16 : wr.cell? ⟨g2, 16, none⟩ = some (.slice A0_16 l_16.length c0_16) := K.out.cell 1 rfl 16 rfl
    have f1_16 : wr.cell? ⟨g3, 16, none⟩ = some (.slice A1_16 l_16.length c1_16) := K.out.cell 0 rfl 16 rfl
    by_cases hi : x < (l_16.length : Int)
    · have hb0 : decide (x < (l_16.length : Int)) = true := decide_eq_true hi
      have hHI := HI.out
      have hw : wrap64 (x + 1) = x + 1 := by have := HL.out; unfold wrap64; omega
      cases gk with
      | zero => omega
      | succ kk =>
      have p516 : 0 ≤ x := hHI.1
      have hHI2 := Aside0.mk hHI
      clear hHI
      have q516 : x < (l_16.length : Int) := hi
      have HQ := Aside0.mk q516
      obtain ⟨ad516, e516, hx516_0⟩ := Kd.at_int (Kd.C_below HR016.out K.out.below) x p516 q516
      cases e516
      obtain ⟨ad517, e517, hx517_0⟩ := Kd.at_int (Kd.C_below HR116.out K.out.below) x p516 q516
      cases e517
      replace p516 := eq_true p516
      replace q516 := eq_true q516
      clear hi
      go_wp2
      repeat (go_quiet (fail); try go_wp2)
      go_roundg kk
      case measure => omega
      case rel => exact ⟨x + 1, by first | rfl | rw [hw], ⟨by have := hHI2.out; have := HQ.out; omega⟩, ⟨by first | exact K.out | exact K.out.drewN _ | exact K.out.drew | exact (K.out.drewN _).drewN _⟩⟩
    · have hb0 : decide (x < (l_16.length : Int)) = false := decide_eq_false hi
      clear hi
      go_wp2
      go_ret
      exact ⟨rfl, K.out.below⟩
end Go.Proofs.Ytihfopblmjgfaaa.Q

/- The law function HeadsegCodings. Printed by wip/tools/genLawC.py of this session. -/
namespace Go.Proofs.Ytihfopblmjgfaaa.Q
open Go.RowKit Go.Proofs.YtihfopblmjgfaaaW.PrintWords Go.Proofs.YtihfopblmjgfaaaW.PrintLast Go.Proofs.YtihfopblmjgfaaaW.PrintMore
set_option linter.unusedVariables false
set_option linter.unusedSimpArgs false

def waveletlaw29_HeadsegCodings.g (k : Nat) (a : Int × List Int × Int) (c : Int × Int × Int × Int × Int × List S89 × Int × Int × Bool × Bool × Bool × Bool × Bool × Bool × Bool × Bool × List Int × Int × Int × Int) : Option Bool :=
  (waveletlaw29_sameSegment.f k a.1 a.2.1 a.1 a.2.1).bind fun t1 => if t1 = true then waveletlaw29_awake.f k else none
open Classical in
noncomputable def waveletlaw29_HeadsegCodings.f (k : Nat) (a0_0 : Int) (a0_1 : Int) (a0_2 : Int) (a0_3 : Int) (a0_4 : Int) (l0_5 : List (S89)) (a0_6 : Int) (a0_7 : Int) (a0_8 : Bool) (a0_9 : Bool) (a0_10 : Bool) (a0_11 : Bool) (a0_12 : Bool) (a0_13 : Bool) (a0_14 : Bool) (a0_15 : Bool) (l0_16 : List Int) (a0_17 : Int) (a0_18 : Int) (a1_0 : Int) (l1_1 : List Int) : Option (Bool) :=
  if (l0_5.length : Int) > 300 then waveletlaw29_awake.f k else (waveletlaw29_long.f a1_0 l1_1).bind fun t => if t = true then waveletlaw29_awake.f k else
    (headseg_Coding.f k a0_0 a0_1 a0_2 a0_3 a0_4 l0_5 a0_6 a0_7 a0_8 a0_9 a0_10 a0_11 a0_12 a0_13 a0_14 a0_15 l0_16 a0_17 a0_18).bind fun a => (waveletref29_Coding.f k a0_0 a0_1 a0_2 a0_3 a0_4 l0_5 a0_6 a0_7 a0_8 a0_9 a0_10 a0_11 a0_12 a0_13 a0_14 a0_15 l0_16 a0_17 a0_18).bind fun b => (headseg_ParseCoding.f k a1_0 l1_1).bind fun c => (waveletref29_ParseCoding.f k a1_0 l1_1).bind fun d => if a = b ∧ c = d then waveletlaw29_HeadsegCodings.g k a c else none
theorem HeadsegCodings_g {k : Nat} {a : Int × List Int × Int} {c : Int × Int × Int × Int × Int × List S89 × Int × Int × Bool × Bool × Bool × Bool × Bool × Bool × Bool × Bool × List Int × Int × Int × Int} (h : waveletlaw29_HeadsegCodings.g k a c = some true) : waveletlaw29_sameSegment.f k a.1 a.2.1 a.1 a.2.1 = some true ∧ waveletlaw29_awake.f k = some true := by
  unfold waveletlaw29_HeadsegCodings.g at h
  obtain ⟨t1, h1, h⟩ := Option.bind_eq_some_iff.mp h
  cases t1
  · simp at h
  exact ⟨h1, by simpa using h⟩
theorem HeadsegCodings_f {t : Option Bool} {A B : Option (Int × List Int × Int)} {C D : Option (Int × Int × Int × Int × Int × List S89 × Int × Int × Bool × Bool × Bool × Bool × Bool × Bool × Bool × Bool × List Int × Int × Int × Int)} {w : Option Bool} {G : Int × List Int × Int → Int × Int × Int × Int × Int × List S89 × Int × Int × Bool × Bool × Bool × Bool × Bool × Bool × Bool × Bool × List Int × Int × Int × Int → Option Bool} {I : ∀ (a b : Int × List Int × Int) (c d : Int × Int × Int × Int × Int × List S89 × Int × Int × Bool × Bool × Bool × Bool × Bool × Bool × Bool × Bool × List Int × Int × Int × Int), Decidable (a = b ∧ c = d)}
    (h : (t.bind fun t => if t = true then w else A.bind fun a => B.bind fun b => C.bind fun c => D.bind fun d => @ite _ (a = b ∧ c = d) (I a b c d) (G a c) none) = some true) : (t = some true ∧ w = some true) ∨ (t = some false ∧ ∃ a c, A = some a ∧ B = some a ∧ C = some c ∧ D = some c ∧ G a c = some true) := by
  obtain ⟨t', ht, h0⟩ := Option.bind_eq_some_iff.mp h
  cases t' with
  | true => exact .inl ⟨ht, by simpa using h0⟩
  | false =>
    rw [if_neg (by simp)] at h0
    obtain ⟨a, ha, h1⟩ := Option.bind_eq_some_iff.mp h0
    obtain ⟨b, hb, h2⟩ := Option.bind_eq_some_iff.mp h1
    obtain ⟨c, hc, h3⟩ := Option.bind_eq_some_iff.mp h2
    obtain ⟨d, hd, h4⟩ := Option.bind_eq_some_iff.mp h3
    by_cases hq : a = b ∧ c = d
    · rw [if_pos hq] at h4
      exact .inr ⟨ht, a, c, ha, by rw [hb, hq.1], hc, by rw [hd, hq.2], h4⟩
    · rw [if_neg hq] at h4
      cases h4
set_option maxHeartbeats 8000000 in
set_option maxRecDepth 100000 in
theorem waveletlaw29_HeadsegCodings.calls (k : Nat) (a0_0 : Int) (a0_1 : Int) (a0_2 : Int) (a0_3 : Int) (a0_4 : Int) (A0_5 : Option Addr) (c0_5 : Nat) (l0_5 : List (S89)) (a0_6 : Int) (a0_7 : Int) (a0_8 : Bool) (a0_9 : Bool) (a0_10 : Bool) (a0_11 : Bool) (a0_12 : Bool) (a0_13 : Bool) (a0_14 : Bool) (a0_15 : Bool) (A0_16 : Option Addr) (c0_16 : Nat) (l0_16 : List Int) (a0_17 : Int) (a0_18 : Int) (a1_0 : Int) (A1_1 : Option Addr) (c1_1 : Nat) (l1_1 : List Int) (r : Bool) (hr_ : r = true) (w : World) (hr0_5 : Kd.C k89 w A0_5 l0_5.length l0_5) (hc0_5 : l0_5.length ≤ c0_5) (hr0_16 : Kd.C (Kd.int .i64) w A0_16 l0_16.length l0_16) (hc0_16 : l0_16.length ≤ c0_16) (hr1_1 : Kd.C (Kd.int .u8) w A1_1 l1_1.length l1_1) (hc1_1 : l1_1.length ≤ c1_1) (h : waveletlaw29_HeadsegCodings.f k a0_0 a0_1 a0_2 a0_3 a0_4 l0_5 a0_6 a0_7 a0_8 a0_9 a0_10 a0_11 a0_12 a0_13 a0_14 a0_15 l0_16 a0_17 a0_18 a1_0 l1_1 = some r) :
    Calls Try.prog 7 #[.agg #[.int .i64 a0_0, .int .i64 a0_1, .int .i64 a0_2, .int .i64 a0_3, .int .i64 a0_4, .slice A0_5 l0_5.length c0_5, .int .i64 a0_6, .int .i64 a0_7, .bool a0_8, .bool a0_9, .bool a0_10, .bool a0_11, .bool a0_12, .bool a0_13, .bool a0_14, .bool a0_15, .slice A0_16 l0_16.length c0_16, .int .i64 a0_17, .int .i64 a0_18], .agg #[.int .i64 a1_0, .slice A1_1 l1_1.length c1_1]] w fun e w' => e = .returned (.bool r) ∧ Below w.heap.size w w' := by
  subst hr_
  have HR5 := Aside0.mk hr0_5
  have HR16 := Aside0.mk hr0_16
  have HR1 := Aside0.mk hr1_1
  have HC5 := Aside0.mk hc0_5
  have HC16 := Aside0.mk hc0_16
  have HC1 := Aside0.mk hc1_1
  clear hr0_5 hr0_16 hr1_1 hc0_5 hc0_16 hc1_1
  have K00 := Aside0.mk (Bks.nil w)
  go_enter Try.func7, Try.ntmps7
  unfold waveletlaw29_HeadsegCodings.f at h
  by_cases h2 : (l0_5.length : Int) > 300
  · rw [if_pos h2] at h
    have HA := Aside0.mk h
    clear h
    have d2 : decide (300 < (l0_5.length : Int)) = true := decide_eq_true (by omega)
    have e2 : decide (300 < l0_5.length) = true := decide_eq_true (by omega)
    clear h2
    go_wp2_with (first | ((with_reducible refine gate_dst (N := 2) rfl ?_); refine box_event ?hg (N := 2) ?hd (cs := #[.int .i64 a0_0, .int .i64 a0_1, .int .i64 a0_2, .int .i64 a0_3, .int .i64 a0_4, .slice A0_5 l0_5.length c0_5, .int .i64 a0_6, .int .i64 a0_7, .bool a0_8, .bool a0_9, .bool a0_10, .bool a0_11, .bool a0_12, .bool a0_13, .bool a0_14, .bool a0_15, .slice A0_16 l0_16.length c0_16, .int .i64 a0_17, .int .i64 a0_18]) (t := 55) ?hr ?_; (case hd => rfl); (case hg => rfl); (case hr => first | (go_simp; done) | (go_simp; rfl)); intro g2 hg W2 hbox hb; have K0 := Aside0.mk (K00.out.box (Nat.le_refl _) hg hbox hb); clear hg hbox hb K00) | ((with_reducible refine gate_dst (N := 3) rfl ?_); refine box_event ?hg (N := 3) ?hd (cs := #[.int .i64 a1_0, .slice A1_1 l1_1.length c1_1]) (t := 26) ?hr ?_; (case hd => rfl); (case hg => rfl); (case hr => first | (go_simp; done) | (go_simp; rfl)); intro g3 hg W3 hbox hb; have K1 := Aside0.mk (K0.out.box (below_size K0.out.below) hg hbox hb); clear hg hbox hb K0; have hz5 : W3.cell? ⟨g2, 5, none⟩ = some (.slice A0_5 l0_5.length c0_5) := K1.out.cell 1 rfl 5 rfl) | (go_at_call 12; refine (waveletlaw29_awake.calls k true _ HA.out).mono ?_; rintro _ w' ⟨rfl, b⟩; have Kw := Aside0.mk (K1.out.call (below_size K1.out.below) b); clear b))
    go_ret
    exact ⟨rfl, Kw.out.below⟩
  rw [if_neg h2] at h
  rcases HeadsegCodings_f h with ⟨hl, hA⟩ | ⟨hl, a, c, ha, hb, hc, hd, h⟩
  · have HL := Aside0.mk hl
    have HA := Aside0.mk hA
    clear hl hA h
    have d2 : decide (300 < (l0_5.length : Int)) = false := decide_eq_false (by omega)
    have e2 : decide (300 < l0_5.length) = false := decide_eq_false (by omega)
    clear h2
    go_wp2_with (first | ((with_reducible refine gate_dst (N := 2) rfl ?_); refine box_event ?hg (N := 2) ?hd (cs := #[.int .i64 a0_0, .int .i64 a0_1, .int .i64 a0_2, .int .i64 a0_3, .int .i64 a0_4, .slice A0_5 l0_5.length c0_5, .int .i64 a0_6, .int .i64 a0_7, .bool a0_8, .bool a0_9, .bool a0_10, .bool a0_11, .bool a0_12, .bool a0_13, .bool a0_14, .bool a0_15, .slice A0_16 l0_16.length c0_16, .int .i64 a0_17, .int .i64 a0_18]) (t := 55) ?hr ?_; (case hd => rfl); (case hg => rfl); (case hr => first | (go_simp; done) | (go_simp; rfl)); intro g2 hg W2 hbox hb; have K0 := Aside0.mk (K00.out.box (Nat.le_refl _) hg hbox hb); clear hg hbox hb K00) | ((with_reducible refine gate_dst (N := 3) rfl ?_); refine box_event ?hg (N := 3) ?hd (cs := #[.int .i64 a1_0, .slice A1_1 l1_1.length c1_1]) (t := 26) ?hr ?_; (case hd => rfl); (case hg => rfl); (case hr => first | (go_simp; done) | (go_simp; rfl)); intro g3 hg W3 hbox hb; have K1 := Aside0.mk (K0.out.box (below_size K0.out.below) hg hbox hb); clear hg hbox hb K0; have hz5 : W3.cell? ⟨g2, 5, none⟩ = some (.slice A0_5 l0_5.length c0_5) := K1.out.cell 1 rfl 5 rfl) | ((with_reducible refine gate_dst (N := 18) rfl ?_); (try (refine gate_guard (by rfl) ?_; dsimp only)); refine load_ev rfl 26 (.tmp 3) rfl rfl (K1.out.get 0 rfl) Try.underlying26 rfl ?_) | (go_at_call 11; refine (waveletlaw29_long.calls a1_0 A1_1 c1_1 l1_1 true _ (Kd.C_below HR1.out K1.out.below) HC1.out HL.out).mono ?_; rintro _ w2 ⟨rfl, b⟩; have K2 := Aside0.mk (K1.out.call (below_size K1.out.below) b); clear b K1 hz5) | (go_at_call 12; refine (waveletlaw29_awake.calls k true _ HA.out).mono ?_; rintro _ w' ⟨rfl, b⟩; have Kw := Aside0.mk (K2.out.call (below_size K2.out.below) b); clear b))
    go_ret
    exact ⟨rfl, Kw.out.below⟩
  · have d2 : decide (300 < (l0_5.length : Int)) = false := decide_eq_false (by omega)
    have e2 : decide (300 < l0_5.length) = false := decide_eq_false (by omega)
    clear h2
    obtain ⟨hs1, hA⟩ := HeadsegCodings_g h
    obtain ⟨q1, q2, q3⟩ := a
    obtain ⟨s0, s1, s2, s3, s4, s5, s6, s7, s8, s9, s10, s11, s12, s13, s14, s15, s16, s17, s18, se⟩ := c
    have HL := Aside0.mk hl
    have HA := Aside0.mk hA
    have Ha := Aside0.mk ha
    have Hb := Aside0.mk hb
    have Hc := Aside0.mk hc
    have Hd := Aside0.mk hd
    have Hs1 := Aside0.mk hs1
    clear hl h hA ha hb hc hd hs1
    go_wp2_with (first | ((with_reducible refine gate_dst (N := 2) rfl ?_); refine box_event ?hg (N := 2) ?hd (cs := #[.int .i64 a0_0, .int .i64 a0_1, .int .i64 a0_2, .int .i64 a0_3, .int .i64 a0_4, .slice A0_5 l0_5.length c0_5, .int .i64 a0_6, .int .i64 a0_7, .bool a0_8, .bool a0_9, .bool a0_10, .bool a0_11, .bool a0_12, .bool a0_13, .bool a0_14, .bool a0_15, .slice A0_16 l0_16.length c0_16, .int .i64 a0_17, .int .i64 a0_18]) (t := 55) ?hr ?_; (case hd => rfl); (case hg => rfl); (case hr => first | (go_simp; done) | (go_simp; rfl)); intro g2 hg W2 hbox hb; have K0 := Aside0.mk (K00.out.box (Nat.le_refl _) hg hbox hb); clear hg hbox hb K00) | ((with_reducible refine gate_dst (N := 3) rfl ?_); refine box_event ?hg (N := 3) ?hd (cs := #[.int .i64 a1_0, .slice A1_1 l1_1.length c1_1]) (t := 26) ?hr ?_; (case hd => rfl); (case hg => rfl); (case hr => first | (go_simp; done) | (go_simp; rfl)); intro g3 hg W3 hbox hb; have K1 := Aside0.mk (K0.out.box (below_size K0.out.below) hg hbox hb); clear hg hbox hb K0; have hz5 : W3.cell? ⟨g2, 5, none⟩ = some (.slice A0_5 l0_5.length c0_5) := K1.out.cell 1 rfl 5 rfl) | ((with_reducible refine gate_dst (N := 18) rfl ?_); (try (refine gate_guard (by rfl) ?_; dsimp only)); refine load_ev rfl 26 (.tmp 3) rfl rfl (K1.out.get 0 rfl) Try.underlying26 rfl ?_) | (go_at_call 11; refine (waveletlaw29_long.calls a1_0 A1_1 c1_1 l1_1 false _ (Kd.C_below HR1.out K1.out.below) HC1.out HL.out).mono ?_; rintro _ w2 ⟨rfl, b⟩; have K2 := Aside0.mk (K1.out.call (below_size K1.out.below) b); clear b K1 hz5) | ((with_reducible refine gate_dst (N := 23) rfl ?_); refine load_ev rfl 55 (.tmp 2) rfl rfl (K2.out.get 1 rfl) Try.underlying55 rfl ?_) | (go_at_call 33; fail))
    have K := K2
    clear K2
    refine (headseg_Coding.calls k a0_0 a0_1 a0_2 a0_3 a0_4 A0_5 c0_5 l0_5 a0_6 a0_7 a0_8 a0_9 a0_10 a0_11 a0_12 a0_13 a0_14 a0_15 A0_16 c0_16 l0_16 a0_17 a0_18 q1 q2 q3 _ (Kd.C_below HR5.out K.out.below) HC5.out (Kd.C_below HR16.out K.out.below) HC16.out Ha.out).mono ?_
    rintro _ w3 ⟨v1, rfl, r1, b⟩
    obtain ⟨Aa, ca, rfl⟩ := Kd.R_slice r1
    have Ra := Aside0.mk (Kd.R_lower r1 (below_size K.out.below))
    have K' := Aside0.mk (K.out.call (below_size K.out.below) b)
    clear K
    have K := K'
    clear K'
    clear b r1
    go_wp2_with (first | ((with_reducible refine gate_dst (N := 5) rfl ?_); refine box_event ?hg (N := 5) ?hd (cs := #[.int .i64 0, .slice none 0 0]) (t := 26) ?hr ?_; (case hd => rfl); (case hg => rfl); (case hr => first | (go_simp; done) | (go_simp; rfl)); intro g5 hg W5 hbox hb; have Ra' := Aside0.mk (Kd.R_below Ra.out hb); clear Ra; have Ra := Ra'; clear Ra'; have K' := Aside0.mk (K.out.box (below_size K.out.below) hg hbox hb); clear K; have K := K'; clear K'; clear hg hbox hb) | (refine store_ev rfl rfl 26 (.tmp 5) (.tmp 25) rfl rfl rfl (K.out.get 0 rfl) rfl rfl (by first | (kernel_rfl) | (simp [Value.oneCell'])) ?_; intro S5 hs; have Ra' := Aside0.mk (row_stored Ra.out (K.out.get 0 rfl) (by decide) hs); clear Ra; have Ra := Ra'; clear Ra'; have K' := Aside0.mk (K.out.stored 0 rfl hs); clear K; have K := K'; clear K'; clear hs) | ((with_reducible refine gate_dst (N := 28) rfl ?_); refine load_ev rfl 55 (.tmp 2) rfl rfl (K.out.get 2 rfl) Try.underlying55 rfl ?_) | (go_at_call 34; fail))
    refine (waveletref29_Coding.calls k a0_0 a0_1 a0_2 a0_3 a0_4 A0_5 c0_5 l0_5 a0_6 a0_7 a0_8 a0_9 a0_10 a0_11 a0_12 a0_13 a0_14 a0_15 A0_16 c0_16 l0_16 a0_17 a0_18 q1 q2 q3 _ (Kd.C_below HR5.out K.out.below) HC5.out (Kd.C_below HR16.out K.out.below) HC16.out Hb.out).mono ?_
    rintro _ w4 ⟨v1, rfl, r1, b⟩
    obtain ⟨Ab, cb, rfl⟩ := Kd.R_slice r1
    have Ra' := Aside0.mk (Kd.R_below Ra.out b)
    clear Ra
    have Ra := Ra'
    clear Ra'
    have Rb := Aside0.mk (Kd.R_lower r1 (below_size K.out.below))
    have K' := Aside0.mk (K.out.call (below_size K.out.below) b)
    clear K
    have K := K'
    clear K'
    clear b r1
    go_wp2_with (first | ((with_reducible refine gate_dst (N := 7) rfl ?_); refine box_event ?hg (N := 7) ?hd (cs := #[.int .i64 0, .slice none 0 0]) (t := 26) ?hr ?_; (case hd => rfl); (case hg => rfl); (case hr => first | (go_simp; done) | (go_simp; rfl)); intro g7 hg W7 hbox hb; have Ra' := Aside0.mk (Kd.R_below Ra.out hb); clear Ra; have Ra := Ra'; clear Ra'; have Rb' := Aside0.mk (Kd.R_below Rb.out hb); clear Rb; have Rb := Rb'; clear Rb'; have K' := Aside0.mk (K.out.box (below_size K.out.below) hg hbox hb); clear K; have K := K'; clear K'; clear hg hbox hb) | (refine store_ev rfl rfl 26 (.tmp 7) (.tmp 30) rfl rfl rfl (K.out.get 0 rfl) rfl rfl (by first | (kernel_rfl) | (simp [Value.oneCell'])) ?_; intro S7 hs; have Ra' := Aside0.mk (row_stored Ra.out (K.out.get 0 rfl) (by decide) hs); clear Ra; have Ra := Ra'; clear Ra'; have Rb' := Aside0.mk (row_stored Rb.out (K.out.get 0 rfl) (by decide) hs); clear Rb; have Rb := Rb'; clear Rb'; have K' := Aside0.mk (K.out.stored 0 rfl hs); clear K; have K := K'; clear K'; clear hs) | ((with_reducible refine gate_dst (N := 33) rfl ?_); refine load_ev rfl 26 (.tmp 3) rfl rfl (K.out.get 2 rfl) Try.underlying26 rfl ?_) | (go_at_call 35; fail))
    refine (headseg_ParseCoding.calls k a1_0 A1_1 c1_1 l1_1 s0 s1 s2 s3 s4 s5 s6 s7 s8 s9 s10 s11 s12 s13 s14 s15 s16 s17 s18 se _ (Kd.C_below HR1.out K.out.below) HC1.out Hc.out).mono ?_
    rintro _ w5 ⟨v5, v16, rfl, r5, r16, b⟩
    obtain ⟨Ac5, cc5, rfl⟩ := Kd.R_slice r5
    obtain ⟨Ac16, cc16, rfl⟩ := Kd.R_slice r16
    have Ra' := Aside0.mk (Kd.R_below Ra.out b)
    clear Ra
    have Ra := Ra'
    clear Ra'
    have Rb' := Aside0.mk (Kd.R_below Rb.out b)
    clear Rb
    have Rb := Rb'
    clear Rb'
    have Rc5 := Aside0.mk (Kd.R_lower r5 (below_size K.out.below))
    have Rc16 := Aside0.mk (Kd.R_lower r16 (below_size K.out.below))
    have K' := Aside0.mk (K.out.call (below_size K.out.below) b)
    clear K
    have K := K'
    clear K'
    clear b r5 r16
    go_wp2_with (first | ((with_reducible refine gate_dst (N := 9) rfl ?_); refine box_event ?hg (N := 9) ?hd (cs := #[.int .i64 0, .int .i64 0, .int .i64 0, .int .i64 0, .int .i64 0, .slice none 0 0, .int .i64 0, .int .i64 0, .bool false, .bool false, .bool false, .bool false, .bool false, .bool false, .bool false, .bool false, .slice none 0 0, .int .i64 0, .int .i64 0]) (t := 55) ?hr ?_; (case hd => rfl); (case hg => rfl); (case hr => first | (go_simp; done) | (go_simp; rfl)); intro g9 hg W9 hbox hb; have Ra' := Aside0.mk (Kd.R_below Ra.out hb); clear Ra; have Ra := Ra'; clear Ra'; have Rb' := Aside0.mk (Kd.R_below Rb.out hb); clear Rb; have Rb := Rb'; clear Rb'; have Rc5' := Aside0.mk (Kd.R_below Rc5.out hb); clear Rc5; have Rc5 := Rc5'; clear Rc5'; have Rc16' := Aside0.mk (Kd.R_below Rc16.out hb); clear Rc16; have Rc16 := Rc16'; clear Rc16'; have K' := Aside0.mk (K.out.box (below_size K.out.below) hg hbox hb); clear K; have K := K'; clear K'; clear hg hbox hb) | (refine store_ev rfl rfl 55 (.tmp 9) (.tmp 35) rfl rfl rfl (K.out.get 0 rfl) rfl rfl (by first | (kernel_rfl) | (simp [Value.oneCell'])) ?_; intro S9 hs; have Ra' := Aside0.mk (row_stored Ra.out (K.out.get 0 rfl) (by decide) hs); clear Ra; have Ra := Ra'; clear Ra'; have Rb' := Aside0.mk (row_stored Rb.out (K.out.get 0 rfl) (by decide) hs); clear Rb; have Rb := Rb'; clear Rb'; have Rc5' := Aside0.mk (row_stored Rc5.out (K.out.get 0 rfl) (by decide) hs); clear Rc5; have Rc5 := Rc5'; clear Rc5'; have Rc16' := Aside0.mk (row_stored Rc16.out (K.out.get 0 rfl) (by decide) hs); clear Rc16; have Rc16 := Rc16'; clear Rc16'; have K' := Aside0.mk (K.out.stored 0 rfl hs); clear K; have K := K'; clear K'; clear hs) | ((with_reducible refine gate_dst (N := 38) rfl ?_); refine load_ev rfl 26 (.tmp 3) rfl rfl (K.out.get 3 rfl) Try.underlying26 rfl ?_) | (go_at_call 36; fail))
    refine (waveletref29_ParseCoding.calls k a1_0 A1_1 c1_1 l1_1 s0 s1 s2 s3 s4 s5 s6 s7 s8 s9 s10 s11 s12 s13 s14 s15 s16 s17 s18 se _ (Kd.C_below HR1.out K.out.below) HC1.out Hd.out).mono ?_
    rintro _ w6 ⟨v5, v16, rfl, r5, r16, b⟩
    obtain ⟨Ad5, cd5, rfl⟩ := Kd.R_slice r5
    obtain ⟨Ad16, cd16, rfl⟩ := Kd.R_slice r16
    have Ra' := Aside0.mk (Kd.R_below Ra.out b)
    clear Ra
    have Ra := Ra'
    clear Ra'
    have Rb' := Aside0.mk (Kd.R_below Rb.out b)
    clear Rb
    have Rb := Rb'
    clear Rb'
    have Rc5' := Aside0.mk (Kd.R_below Rc5.out b)
    clear Rc5
    have Rc5 := Rc5'
    clear Rc5'
    have Rc16' := Aside0.mk (Kd.R_below Rc16.out b)
    clear Rc16
    have Rc16 := Rc16'
    clear Rc16'
    have Rd5 := Aside0.mk (Kd.R_lower r5 (below_size K.out.below))
    have Rd16 := Aside0.mk (Kd.R_lower r16 (below_size K.out.below))
    have K' := Aside0.mk (K.out.call (below_size K.out.below) b)
    clear K
    have K := K'
    clear K'
    clear b r5 r16
    go_wp2_with (first | ((with_reducible refine gate_dst (N := 11) rfl ?_); refine box_event ?hg (N := 11) ?hd (cs := #[.int .i64 0, .int .i64 0, .int .i64 0, .int .i64 0, .int .i64 0, .slice none 0 0, .int .i64 0, .int .i64 0, .bool false, .bool false, .bool false, .bool false, .bool false, .bool false, .bool false, .bool false, .slice none 0 0, .int .i64 0, .int .i64 0]) (t := 55) ?hr ?_; (case hd => rfl); (case hg => rfl); (case hr => first | (go_simp; done) | (go_simp; rfl)); intro g11 hg W11 hbox hb; have Ra' := Aside0.mk (Kd.R_below Ra.out hb); clear Ra; have Ra := Ra'; clear Ra'; have Rb' := Aside0.mk (Kd.R_below Rb.out hb); clear Rb; have Rb := Rb'; clear Rb'; have Rc5' := Aside0.mk (Kd.R_below Rc5.out hb); clear Rc5; have Rc5 := Rc5'; clear Rc5'; have Rc16' := Aside0.mk (Kd.R_below Rc16.out hb); clear Rc16; have Rc16 := Rc16'; clear Rc16'; have Rd5' := Aside0.mk (Kd.R_below Rd5.out hb); clear Rd5; have Rd5 := Rd5'; clear Rd5'; have Rd16' := Aside0.mk (Kd.R_below Rd16.out hb); clear Rd16; have Rd16 := Rd16'; clear Rd16'; have K' := Aside0.mk (K.out.box (below_size K.out.below) hg hbox hb); clear K; have K := K'; clear K'; clear hg hbox hb) | (refine store_ev rfl rfl 55 (.tmp 11) (.tmp 40) rfl rfl rfl (K.out.get 0 rfl) rfl rfl (by first | (kernel_rfl) | (simp [Value.oneCell'])) ?_; intro S11 hs; have Ra' := Aside0.mk (row_stored Ra.out (K.out.get 0 rfl) (by decide) hs); clear Ra; have Ra := Ra'; clear Ra'; have Rb' := Aside0.mk (row_stored Rb.out (K.out.get 0 rfl) (by decide) hs); clear Rb; have Rb := Rb'; clear Rb'; have Rc5' := Aside0.mk (row_stored Rc5.out (K.out.get 0 rfl) (by decide) hs); clear Rc5; have Rc5 := Rc5'; clear Rc5'; have Rc16' := Aside0.mk (row_stored Rc16.out (K.out.get 0 rfl) (by decide) hs); clear Rc16; have Rc16 := Rc16'; clear Rc16'; have Rd5' := Aside0.mk (row_stored Rd5.out (K.out.get 0 rfl) (by decide) hs); clear Rd5; have Rd5 := Rd5'; clear Rd5'; have Rd16' := Aside0.mk (row_stored Rd16.out (K.out.get 0 rfl) (by decide) hs); clear Rd16; have Rd16 := Rd16'; clear Rd16'; have K' := Aside0.mk (K.out.stored 0 rfl hs); clear K; have K := K'; clear K'; clear hs) | ((with_reducible refine gate_dst (N := 42) rfl ?_); refine load_ev rfl 26 (.tmp 5) rfl rfl (K.out.get 3 rfl) Try.underlying26 rfl ?_) | ((with_reducible refine gate_dst (N := 43) rfl ?_); refine load_ev rfl 26 (.tmp 7) rfl rfl (K.out.get 2 rfl) Try.underlying26 rfl ?_) | (go_at_call 17; fail))
    refine (waveletlaw29_sameSegment.calls k q1 Aa ca q2 q1 Ab cb q2 true _ (Kd.R_reads' Ra.out).2.2 (Kd.R_reads' Ra.out).2.1 (Kd.R_reads' Rb.out).2.2 (Kd.R_reads' Rb.out).2.1 Hs1.out).mono ?_
    rintro _ w7 ⟨rfl, b⟩
    have Ra' := Aside0.mk (Kd.R_below Ra.out b)
    clear Ra
    have Ra := Ra'
    clear Ra'
    have Rb' := Aside0.mk (Kd.R_below Rb.out b)
    clear Rb
    have Rb := Rb'
    clear Rb'
    have Rc5' := Aside0.mk (Kd.R_below Rc5.out b)
    clear Rc5
    have Rc5 := Rc5'
    clear Rc5'
    have Rc16' := Aside0.mk (Kd.R_below Rc16.out b)
    clear Rc16
    have Rc16 := Rc16'
    clear Rc16'
    have Rd5' := Aside0.mk (Kd.R_below Rd5.out b)
    clear Rd5
    have Rd5 := Rd5'
    clear Rd5'
    have Rd16' := Aside0.mk (Kd.R_below Rd16.out b)
    clear Rd16
    have Rd16 := Rd16'
    clear Rd16'
    have K' := Aside0.mk (K.out.call (below_size K.out.below) b)
    clear K
    have K := K'
    clear K'
    clear b 
    go_wp2_with (first | ((with_reducible refine gate_dst (N := 51) rfl ?_); (try (refine gate_guard (by rfl) ?_; dsimp only)); refine load_ev rfl 55 (.tmp 9) rfl rfl (K.out.get 1 rfl) Try.underlying55 rfl ?_) | ((with_reducible refine gate_dst (N := 52) rfl ?_); (try (refine gate_guard (by rfl) ?_; dsimp only)); refine load_ev rfl 55 (.tmp 11) rfl rfl (K.out.get 0 rfl) Try.underlying55 rfl ?_) | (go_at_call 32; fail))
    refine (waveletref23_SameParams.same s0 s1 s2 s3 s4 s5 s6 s7 s8 s9 s10 s11 s12 s13 s14 s15 s16 s17 s18 Ac5 cc5 Ac16 cc16 Ad5 cd5 Ad16 cd16 _ (Kd.R_reads' Rc5.out).2.2 (Kd.R_reads' Rc16.out).2.2 (Kd.R_reads' Rd5.out).2.2 (Kd.R_reads' Rd16.out).2.2).mono ?_
    rintro _ w8 ⟨rfl, b⟩
    have Ra' := Aside0.mk (Kd.R_below Ra.out b)
    clear Ra
    have Ra := Ra'
    clear Ra'
    have Rb' := Aside0.mk (Kd.R_below Rb.out b)
    clear Rb
    have Rb := Rb'
    clear Rb'
    have Rc5' := Aside0.mk (Kd.R_below Rc5.out b)
    clear Rc5
    have Rc5 := Rc5'
    clear Rc5'
    have Rc16' := Aside0.mk (Kd.R_below Rc16.out b)
    clear Rc16
    have Rc16 := Rc16'
    clear Rc16'
    have Rd5' := Aside0.mk (Kd.R_below Rd5.out b)
    clear Rd5
    have Rd5 := Rd5'
    clear Rd5'
    have Rd16' := Aside0.mk (Kd.R_below Rd16.out b)
    clear Rd16
    have Rd16 := Rd16'
    clear Rd16'
    have K' := Aside0.mk (K.out.call (below_size K.out.below) b)
    clear K
    have K := K'
    clear K'
    clear b 
    go_wp2_with (go_at_call 12; refine (waveletlaw29_awake.calls k true _ HA.out).mono ?_; rintro _ w' ⟨rfl, b⟩; have Kw := Aside0.mk (K.out.call (below_size K.out.below) b); clear b)
    go_ret
    exact ⟨rfl, Kw.out.below⟩
end Go.Proofs.Ytihfopblmjgfaaa.Q
