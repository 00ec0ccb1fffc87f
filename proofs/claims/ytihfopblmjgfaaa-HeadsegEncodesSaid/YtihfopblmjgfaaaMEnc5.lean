/- Texts of this session (words and printed walks, merged by wip/tools/merge.py) for the statement of the claim. -/
import Derived.Test.YtihfopblmjgfaaaMEnc1
import Derived.Test.YtihfopblmjgfaaaMEnc4
import Derived.Deep.MidRow
import Derived.Test.YtihfopblmjgfaaaMEnc0
import Derived.Laws.NewBlocks
/- ParseSize: the closure that reads a header's numbers, and the function. Printed by wip/tools/genSize.py of this session. -/
namespace Go.Proofs.Ytihfopblmjgfaaa.Q
open Go.RowKit Go.Proofs.YtihfopblmjgfaaaW.PrintWords Go.Proofs.YtihfopblmjgfaaaW.PrintLast Go.Proofs.YtihfopblmjgfaaaW.PrintMore
set_option linter.unusedVariables false
set_option linter.unusedSimpArgs false

/-- The components: the error, the list, the place behind. -/
def sizeLoop : Nat → List Int → Int → Int → List S97 → Option (Int × List S97 × Int)
  | 0, _, _, _, _ => none
  | k + 1, l, p, n, xs => if n > 0 then (if xs.length < 4398046511104 then rdn k l p 1 (fun e => (e, [], 0)) (fun d => rdn k l (wrap64 (p + 1)) 1 (fun e => (e, [], 0)) (fun dx => rdn k l (wrap64 (wrap64 (p + 1) + 1)) 1 (fun e => (e, [], 0)) (fun dy =>
      sizeLoop k l (wrap64 (wrap64 (wrap64 (p + 1) + 1) + 1)) (wrap64 (n - 1)) (xs ++ [⟨wrap64 (Go.bits .and .i64 d 127 + 1), decide (d ≥ 128), dx, dy⟩])))) else none) else some (0, xs, p)
theorem sizeLoop.mono : ∀ k l p n xs, LeO (sizeLoop k l p n xs) (sizeLoop (k + 1) l p n xs)
  | 0, _, _, _, _ => LeO.none _
  | k + 1, l, p, n, xs => by
    rw [sizeLoop.eq_2, sizeLoop.eq_2]
    exact LeO.ite (LeO.ite (rdn_mono _ _ _ _ _ fun _ => rdn_mono _ _ _ _ _ fun _ => rdn_mono _ _ _ _ _ fun _ => sizeLoop.mono _ _ _ _ _) (LeO.refl _)) (LeO.refl _)
def badSize (e : Int) : Int × Int × Int × Int × Int × Int × Int × List S97 × Int := (e, 0, 0, 0, 0, 0, 0, [], 0)
def sizeRead (k : Nat) (l : List Int) : Option (Int × Int × Int × Int × Int × Int × Int × List S97 × Int) :=
  rdn k l 0 2 badSize fun x0 => rdn k l 2 2 badSize fun y0 => rdn k l 4 2 badSize fun x1 => rdn k l 6 2 badSize fun y1 => rdn k l 8 2 badSize fun tw => rdn k l 10 2 badSize fun th => rdn k l 12 1 badSize fun n =>
    (sizeLoop k l 13 n []).bind fun t => some (if t.1 = 0 then (0, x0, y0, x1, y1, tw, th, t.2.1, t.2.2) else badSize t.1)
theorem sizeRead.mono (k : Nat) (l : List Int) : LeO (sizeRead k l) (sizeRead (k + 1) l) :=
  rdn_mono _ _ _ _ _ fun _ => rdn_mono _ _ _ _ _ fun _ => rdn_mono _ _ _ _ _ fun _ => rdn_mono _ _ _ _ _ fun _ => rdn_mono _ _ _ _ _ fun _ => rdn_mono _ _ _ _ _ fun _ => rdn_mono _ _ _ _ _ fun _ => LeO.bind (sizeLoop.mono _ _ _ _ _) fun _ => LeO.refl _

set_option maxHeartbeats 8000000 in
set_option maxRecDepth 100000 in
theorem size_closure (k : Nat) (wb w1 : World) (A : Option Addr) (c : Nat) (l : List Int) (hC : Kd.C (Kd.int .u8) wb A l.length l) (hc : l.length ≤ c) (ra g : Nat) (hr1 : g ≠ ra) (l0 : wb.heap.size ≤ ra) (l1 : wb.heap.size ≤ g) (hlr : ra < w1.heap.size) (hlg : g < w1.heap.size)
    (hB : Below wb.heap.size wb w1) (br : w1.heap[ra]? = some (.cells #[.slice A l.length c, .int .i64 0] 102 (0, 0))) (b1 : w1.heap[g]? = some (.cells #[.int .i64 0, .int .i64 0, .int .i64 0, .int .i64 0, .int .i64 0, .int .i64 0, .slice none 0 0] 67 (0, 0)))
    (e x0 y0 x1 y1 tw th : Int) (xs : List S97) (pe : Int) (h : sizeRead k l = some (e, x0, y0, x1, y1, tw, th, xs, pe)) :
    Calls Try.prog 62 #[.pointer (some ⟨ra, 0, none⟩), .pointer (some ⟨g, 0, none⟩)] w1 fun en w2 => Only (fun k => k = g ∨ k = ra) w1 w2 ∧
      ((∃ p, en = .returned (.tuple #[]) ∧ w2.heap[ra]? = some (.cells #[.slice A l.length c, .int .i64 p] 102 (0, 0)) ∧ (e = 0 ∧ p = pe ∧ ∃ v, w2.heap[g]? = some (.cells #[.int .i64 x0, .int .i64 y0, .int .i64 x1, .int .i64 y1, .int .i64 tw, .int .i64 th, v] 67 (0, 0)) ∧ Kd.R k97 97 w2 wb.heap.size (fun k => w1.heap.size ≤ k) v xs)) ∨
        ∃ e', en = .panicked [{ v := .iface 99 (.agg #[.int .i64 e']), recovered := false }] ∧ (e' = e ∧ e ≠ 0)) := by
  have H := Aside0.mk h
  have R := RS.mk (S := fun k => k = g ∨ k = ra) br hB (Only.refl _ w1)
  have B1 := Aside0.mk b1
  clear h br hB b1
  go_enter Try.func62, Try.ntmps62
  cases hq0 : marker_ReadUint.f k l 0 2 with
  | none => have h := H.out; simp [sizeRead, rdn, hq0] at h
  | some q0 =>
  obtain ⟨x_0, y_0⟩ := q0
  by_cases hy0 : y_0 = 0
  rotate_left
  · have h := H.out
    simp [sizeRead, rdn, badSize, hq0, hy0] at h
    have h' := Aside0.mk h
    clear h
    go_wp2_with (go_at_call 49; (with_reducible refine (reader_uint.calls k ra A c l 0 2 x_0 y_0 _ R.br (Kd.C_below hC R.below) hc hq0).mono ?_); rintro en w' (⟨hne, _, _⟩ | ⟨_, rfl, hd⟩); exact absurd hne hy0)
    obtain ⟨rfl, -⟩ := h'.out
    exact ⟨rfl, (R.drawn hd).only, .inr ⟨_, rfl, rfl, hy0⟩⟩
  go_wp2_with (go_at_call 49; (with_reducible refine (reader_uint.calls k ra A c l 0 2 x_0 y_0 _ R.br (Kd.C_below hC R.below) hc hq0).mono ?_); rintro en w2 (⟨_, rfl, hd⟩ | ⟨hne, _, _⟩); rotate_left; (exact absurd hy0 hne); have R1 := R.read (p' := 2) l0 (.inr rfl) _ hd (by unfold wrap64; omega); have n1 := Aside0.mk (RS.far B1.out hr1 hd); clear B1 hd; have B1 := n1; clear n1)
  cases hq1 : marker_ReadUint.f k l 2 2 with
  | none => have h := H.out; simp [sizeRead, rdn, hq0, hy0, hq1] at h
  | some q1 =>
  obtain ⟨x_1, y_1⟩ := q1
  by_cases hy1 : y_1 = 0
  rotate_left
  · have h := H.out
    simp [sizeRead, rdn, badSize, hq0, hy0, hq1, hy1] at h
    have h' := Aside0.mk h
    clear h
    go_wp2_with (go_at_call 49; (with_reducible refine (reader_uint.calls k ra A c l 2 2 x_1 y_1 _ R1.br (Kd.C_below hC R1.below) hc hq1).mono ?_); rintro en w' (⟨hne, _, _⟩ | ⟨_, rfl, hd⟩); exact absurd hne hy1)
    obtain ⟨rfl, -⟩ := h'.out
    exact ⟨rfl, (R1.drawn hd).only, .inr ⟨_, rfl, rfl, hy1⟩⟩
  go_wp2_with (go_at_call 49; (with_reducible refine (reader_uint.calls k ra A c l 2 2 x_1 y_1 _ R1.br (Kd.C_below hC R1.below) hc hq1).mono ?_); rintro en w3 (⟨_, rfl, hd⟩ | ⟨hne, _, _⟩); rotate_left; (exact absurd hy1 hne); have R2 := R1.read (p' := 4) l0 (.inr rfl) _ hd (by unfold wrap64; omega); have n1 := Aside0.mk (RS.far B1.out hr1 hd); clear B1 hd; have B1 := n1; clear n1; have hcg0 : w3.cell? ⟨g, 0, none⟩ = some (.int .i64 0) := (blk_cell B1.out 0).trans rfl; have hzg0 := blk_frozen B1.out 0; have hcg1 : w3.cell? ⟨g, 1, none⟩ = some (.int .i64 0) := (blk_cell B1.out 1).trans rfl; have hzg1 := blk_frozen B1.out 1)
  clear hcg0 hzg0 hcg1 hzg1
  replace R2 := (R2.store l1 (.inl rfl) hr1 0 (.int .i64 x_0)).store l1 (.inl rfl) hr1 1 (.int .i64 x_1)
  replace B1 := Aside0.mk (blk_put (cs' := #[.int .i64 x_0, .int .i64 x_1, .int .i64 0, .int .i64 0, .int .i64 0, .int .i64 0, .slice none 0 0]) (blk_put (cs' := #[.int .i64 x_0, .int .i64 0, .int .i64 0, .int .i64 0, .int .i64 0, .int .i64 0, .slice none 0 0]) B1.out 0 (.int .i64 x_0) rfl) 1 (.int .i64 x_1) rfl)
  cases hq2 : marker_ReadUint.f k l 4 2 with
  | none => have h := H.out; simp [sizeRead, rdn, hq0, hy0, hq1, hy1, hq2] at h
  | some q2 =>
  obtain ⟨x_2, y_2⟩ := q2
  by_cases hy2 : y_2 = 0
  rotate_left
  · have h := H.out
    simp [sizeRead, rdn, badSize, hq0, hy0, hq1, hy1, hq2, hy2] at h
    have h' := Aside0.mk h
    clear h
    go_wp2_with (go_at_call 49; (with_reducible refine (reader_uint.calls k ra A c l 4 2 x_2 y_2 _ R2.br (Kd.C_below hC R2.below) hc hq2).mono ?_); rintro en w' (⟨hne, _, _⟩ | ⟨_, rfl, hd⟩); exact absurd hne hy2)
    obtain ⟨rfl, -⟩ := h'.out
    exact ⟨rfl, (R2.drawn hd).only, .inr ⟨_, rfl, rfl, hy2⟩⟩
  go_wp2_with (go_at_call 49; (with_reducible refine (reader_uint.calls k ra A c l 4 2 x_2 y_2 _ R2.br (Kd.C_below hC R2.below) hc hq2).mono ?_); rintro en w4 (⟨_, rfl, hd⟩ | ⟨hne, _, _⟩); rotate_left; (exact absurd hy2 hne); have R3 := R2.read (p' := 6) l0 (.inr rfl) _ hd (by unfold wrap64; omega); have n1 := Aside0.mk (RS.far B1.out hr1 hd); clear B1 hd; have B1 := n1; clear n1)
  cases hq3 : marker_ReadUint.f k l 6 2 with
  | none => have h := H.out; simp [sizeRead, rdn, hq0, hy0, hq1, hy1, hq2, hy2, hq3] at h
  | some q3 =>
  obtain ⟨x_3, y_3⟩ := q3
  by_cases hy3 : y_3 = 0
  rotate_left
  · have h := H.out
    simp [sizeRead, rdn, badSize, hq0, hy0, hq1, hy1, hq2, hy2, hq3, hy3] at h
    have h' := Aside0.mk h
    clear h
    go_wp2_with (go_at_call 49; (with_reducible refine (reader_uint.calls k ra A c l 6 2 x_3 y_3 _ R3.br (Kd.C_below hC R3.below) hc hq3).mono ?_); rintro en w' (⟨hne, _, _⟩ | ⟨_, rfl, hd⟩); exact absurd hne hy3)
    obtain ⟨rfl, -⟩ := h'.out
    exact ⟨rfl, (R3.drawn hd).only, .inr ⟨_, rfl, rfl, hy3⟩⟩
  go_wp2_with (go_at_call 49; (with_reducible refine (reader_uint.calls k ra A c l 6 2 x_3 y_3 _ R3.br (Kd.C_below hC R3.below) hc hq3).mono ?_); rintro en w5 (⟨_, rfl, hd⟩ | ⟨hne, _, _⟩); rotate_left; (exact absurd hy3 hne); have R4 := R3.read (p' := 8) l0 (.inr rfl) _ hd (by unfold wrap64; omega); have n1 := Aside0.mk (RS.far B1.out hr1 hd); clear B1 hd; have B1 := n1; clear n1; have hcg2 : w5.cell? ⟨g, 2, none⟩ = some (.int .i64 0) := (blk_cell B1.out 2).trans rfl; have hzg2 := blk_frozen B1.out 2; have hcg3 : w5.cell? ⟨g, 3, none⟩ = some (.int .i64 0) := (blk_cell B1.out 3).trans rfl; have hzg3 := blk_frozen B1.out 3)
  clear hcg2 hzg2 hcg3 hzg3
  replace R4 := (R4.store l1 (.inl rfl) hr1 2 (.int .i64 x_2)).store l1 (.inl rfl) hr1 3 (.int .i64 x_3)
  replace B1 := Aside0.mk (blk_put (cs' := #[.int .i64 x_0, .int .i64 x_1, .int .i64 x_2, .int .i64 x_3, .int .i64 0, .int .i64 0, .slice none 0 0]) (blk_put (cs' := #[.int .i64 x_0, .int .i64 x_1, .int .i64 x_2, .int .i64 0, .int .i64 0, .int .i64 0, .slice none 0 0]) B1.out 2 (.int .i64 x_2) rfl) 3 (.int .i64 x_3) rfl)
  cases hq4 : marker_ReadUint.f k l 8 2 with
  | none => have h := H.out; simp [sizeRead, rdn, hq0, hy0, hq1, hy1, hq2, hy2, hq3, hy3, hq4] at h
  | some q4 =>
  obtain ⟨x_4, y_4⟩ := q4
  by_cases hy4 : y_4 = 0
  rotate_left
  · have h := H.out
    simp [sizeRead, rdn, badSize, hq0, hy0, hq1, hy1, hq2, hy2, hq3, hy3, hq4, hy4] at h
    have h' := Aside0.mk h
    clear h
    go_wp2_with (go_at_call 49; (with_reducible refine (reader_uint.calls k ra A c l 8 2 x_4 y_4 _ R4.br (Kd.C_below hC R4.below) hc hq4).mono ?_); rintro en w' (⟨hne, _, _⟩ | ⟨_, rfl, hd⟩); exact absurd hne hy4)
    obtain ⟨rfl, -⟩ := h'.out
    exact ⟨rfl, (R4.drawn hd).only, .inr ⟨_, rfl, rfl, hy4⟩⟩
  go_wp2_with (go_at_call 49; (with_reducible refine (reader_uint.calls k ra A c l 8 2 x_4 y_4 _ R4.br (Kd.C_below hC R4.below) hc hq4).mono ?_); rintro en w6 (⟨_, rfl, hd⟩ | ⟨hne, _, _⟩); rotate_left; (exact absurd hy4 hne); have R5 := R4.read (p' := 10) l0 (.inr rfl) _ hd (by unfold wrap64; omega); have n1 := Aside0.mk (RS.far B1.out hr1 hd); clear B1 hd; have B1 := n1; clear n1)
  cases hq5 : marker_ReadUint.f k l 10 2 with
  | none => have h := H.out; simp [sizeRead, rdn, hq0, hy0, hq1, hy1, hq2, hy2, hq3, hy3, hq4, hy4, hq5] at h
  | some q5 =>
  obtain ⟨x_5, y_5⟩ := q5
  by_cases hy5 : y_5 = 0
  rotate_left
  · have h := H.out
    simp [sizeRead, rdn, badSize, hq0, hy0, hq1, hy1, hq2, hy2, hq3, hy3, hq4, hy4, hq5, hy5] at h
    have h' := Aside0.mk h
    clear h
    go_wp2_with (go_at_call 49; (with_reducible refine (reader_uint.calls k ra A c l 10 2 x_5 y_5 _ R5.br (Kd.C_below hC R5.below) hc hq5).mono ?_); rintro en w' (⟨hne, _, _⟩ | ⟨_, rfl, hd⟩); exact absurd hne hy5)
    obtain ⟨rfl, -⟩ := h'.out
    exact ⟨rfl, (R5.drawn hd).only, .inr ⟨_, rfl, rfl, hy5⟩⟩
  go_wp2_with (go_at_call 49; (with_reducible refine (reader_uint.calls k ra A c l 10 2 x_5 y_5 _ R5.br (Kd.C_below hC R5.below) hc hq5).mono ?_); rintro en w7 (⟨_, rfl, hd⟩ | ⟨hne, _, _⟩); rotate_left; (exact absurd hy5 hne); have R6 := R5.read (p' := 12) l0 (.inr rfl) _ hd (by unfold wrap64; omega); have n1 := Aside0.mk (RS.far B1.out hr1 hd); clear B1 hd; have B1 := n1; clear n1; have hcg4 : w7.cell? ⟨g, 4, none⟩ = some (.int .i64 0) := (blk_cell B1.out 4).trans rfl; have hzg4 := blk_frozen B1.out 4; have hcg5 : w7.cell? ⟨g, 5, none⟩ = some (.int .i64 0) := (blk_cell B1.out 5).trans rfl; have hzg5 := blk_frozen B1.out 5)
  clear hcg4 hzg4 hcg5 hzg5
  replace R6 := (R6.store l1 (.inl rfl) hr1 4 (.int .i64 x_4)).store l1 (.inl rfl) hr1 5 (.int .i64 x_5)
  replace B1 := Aside0.mk (blk_put (cs' := #[.int .i64 x_0, .int .i64 x_1, .int .i64 x_2, .int .i64 x_3, .int .i64 x_4, .int .i64 x_5, .slice none 0 0]) (blk_put (cs' := #[.int .i64 x_0, .int .i64 x_1, .int .i64 x_2, .int .i64 x_3, .int .i64 x_4, .int .i64 0, .slice none 0 0]) B1.out 4 (.int .i64 x_4) rfl) 5 (.int .i64 x_5) rfl)
  cases hq6 : marker_ReadUint.f k l 12 1 with
  | none => have h := H.out; simp [sizeRead, rdn, hq0, hy0, hq1, hy1, hq2, hy2, hq3, hy3, hq4, hy4, hq5, hy5, hq6] at h
  | some q6 =>
  obtain ⟨x_6, y_6⟩ := q6
  by_cases hy6 : y_6 = 0
  rotate_left
  · have h := H.out
    simp [sizeRead, rdn, badSize, hq0, hy0, hq1, hy1, hq2, hy2, hq3, hy3, hq4, hy4, hq5, hy5, hq6, hy6] at h
    have h' := Aside0.mk h
    clear h
    go_wp2_with (go_at_call 49; (with_reducible refine (reader_uint.calls k ra A c l 12 1 x_6 y_6 _ R6.br (Kd.C_below hC R6.below) hc hq6).mono ?_); rintro en w' (⟨hne, _, _⟩ | ⟨_, rfl, hd⟩); exact absurd hne hy6)
    obtain ⟨rfl, -⟩ := h'.out
    exact ⟨rfl, (R6.drawn hd).only, .inr ⟨_, rfl, rfl, hy6⟩⟩
  go_wp2_with (go_at_call 49; (with_reducible refine (reader_uint.calls k ra A c l 12 1 x_6 y_6 _ R6.br (Kd.C_below hC R6.below) hc hq6).mono ?_); rintro en w8 (⟨_, rfl, hd⟩ | ⟨hne, _, _⟩); rotate_left; (exact absurd hy6 hne); have R7 := R6.read (p' := 13) l0 (.inr rfl) _ hd (by unfold wrap64; omega); have n1 := Aside0.mk (RS.far B1.out hr1 hd); clear B1 hd; have B1 := n1; clear n1)
  cases hsl : sizeLoop k l 13 x_6 [] with
  | none => have h := H.out; simp [sizeRead, rdn, hq0, hy0, hq1, hy1, hq2, hy2, hq3, hy3, hq4, hy4, hq5, hy5, hq6, hy6, hsl] at h
  | some t =>
  have HT := Aside0.mk (show (if t.1 = 0 then (0, x_0, x_1, x_2, x_3, x_4, x_5, t.2.1, t.2.2) else badSize t.1) = (e, x0, y0, x1, y1, tw, th, xs, pe) by have h := H.out; simpa [sizeRead, rdn, hq0, hy0, hq1, hy1, hq2, hy2, hq3, hy3, hq4, hy4, hq5, hy5, hq6, hy6, hsl] using h)
  have HSL := Aside0.mk hsl
  clear hsl H hq0 hq1 hq2 hq3 hq4 hq5 hq6 hy0 hy1 hy2 hy3 hy4 hy5 hy6
  clear R R1 R2 R3 R4 R5 R6
  have hsz8 : w1.heap.size ≤ w8.heap.size := R7.only.size
  have HR0 := Aside0.mk (Kd.R_nil k97 97 w8 wb.heap.size (fun k => w1.heap.size ≤ k))
  go_loopg [3] k (fun kq v3 w' => ∃ (n p : Int) (ys : List S97) (v : Value), v3 = .int .i64 n ∧ Aside0 (sizeLoop kq l p n ys = some t) ∧ RS (fun k => k = g ∨ k = ra) wb w1 ra A l.length c p w' ∧ Aside0 (w'.heap[g]? = some (.cells #[.int .i64 x_0, .int .i64 x_1, .int .i64 x_2, .int .i64 x_3, .int .i64 x_4, .int .i64 x_5, v] 67 (0, 0))) ∧ Aside0 (Kd.R k97 97 w' wb.heap.size (fun k => w1.heap.size ≤ k) v ys))
  case atStart => exact ⟨x_6, 13, [], _, rfl, HSL, R7, B1, HR0⟩
  case round =>
    clear HSL R7 B1 HR0 hsz8
    obtain ⟨n, p, ys, v, rfl, HS, R, B1, HR⟩ := hrel
    cases gk with
    | zero => exact absurd HS.out (by simp [sizeLoop])
    | succ kk =>
    have hs := HS.out
    clear HS
    rw [sizeLoop.eq_2] at hs
    by_cases hn : n > 0
    rotate_left
    · rw [if_neg hn] at hs
      have hn0 : decide (0 < n) = false := decide_eq_false hn
      obtain rfl : (0, ys, p) = t := Option.some.inj hs
      have ht := HT.out
      simp only [if_true, Prod.mk.injEq] at ht
      obtain ⟨rfl, rfl, rfl, rfl, rfl, rfl, rfl, rfl, rfl⟩ := ht
      clear hs HT
      go_wp2
      go_end0
      first | exact ⟨R.only, .inl ⟨_, rfl, R.br, rfl, rfl, v, B1.out, HR.out⟩⟩ | exact ⟨R.only, rfl, _, R.br, rfl, v, B1.out, HR.out⟩
    rw [if_pos hn] at hs
    have hn1 : decide (0 < n) = true := decide_eq_true hn
    by_cases hlim : ys.length < 4398046511104
    rotate_left
    · rw [if_neg hlim] at hs; exact absurd hs (by simp)
    rw [if_pos hlim] at hs
    (try simp only [rdn] at hs)
    cases hq7 : marker_ReadUint.f kk l (p) 1 with
    | none => rw [hq7] at hs; exact absurd hs (by simp)
    | some q7 =>
    obtain ⟨x_7, y_7⟩ := q7
    rw [hq7] at hs
    simp only [Option.bind_some] at hs
    by_cases hy7 : y_7 = 0
    rotate_left
    · rw [if_neg hy7] at hs
      obtain rfl : (y_7, [], 0) = t := Option.some.inj hs
      have ht := HT.out
      rw [if_neg hy7] at ht
      simp only [badSize, Prod.mk.injEq] at ht
      have he := Aside0.mk ht.1
      clear hs HT ht
      go_wp2_with (go_at_call 49; (with_reducible refine (reader_uint.calls kk ra A c l (p) 1 x_7 y_7 _ R.br (Kd.C_below hC R.below) hc hq7).mono ?_); rintro en w' (⟨hne, _, _⟩ | ⟨_, rfl, hd⟩); exact absurd hne hy7)
      obtain rfl := he.out
      exact ⟨rfl, (R.drawn hd).only, .inr ⟨_, rfl, rfl, hy7⟩⟩
    rw [if_pos hy7] at hs
    have hs' := Aside0.mk hs
    clear hs
    go_wp2_with (first | (go_at_call 49; (with_reducible refine (reader_uint.calls kk ra A c l (p) 1 x_7 y_7 _ R.br (Kd.C_below hC R.below) hc hq7).mono ?_); rintro en w9 (⟨_, rfl, hd⟩ | ⟨hne, _, _⟩); rotate_left; (exact absurd hy7 hne); have S1 := R.read (p' := wrap64 (p + 1)) l0 (.inr rfl) _ hd rfl; have n1 := Aside0.mk (RS.far B1.out hr1 hd); have n2 := Aside0.mk (RS.readR HR.out (fun k hk => by omega) hd); clear B1 HR hd; have B1 := n1; have HR := n2; clear n1 n2))
    have hs := hs'.out
    clear hs'
    have S1a := S1.alloc (Obj.cells #[.int .i64 (wrap64 (Go.bits .and .i64 x_7 127 + 1)), .bool (decide (128 ≤ x_7)), .int .i64 0, .int .i64 0] 97)
    have hS1 := S1.only.size
    have hgl : g < w9.heap.size := blk_lt B1.out
    have hrl : ra < w9.heap.size := blk_lt S1.br
    have BC := Aside0.mk (blk_new w9 (Obj.cells #[.int .i64 (wrap64 (Go.bits .and .i64 x_7 127 + 1)), .bool (decide (128 ≤ x_7)), .int .i64 0, .int .i64 0] 97))
    have n1 := Aside0.mk (blk_alloc B1.out (Obj.cells #[.int .i64 (wrap64 (Go.bits .and .i64 x_7 127 + 1)), .bool (decide (128 ≤ x_7)), .int .i64 0, .int .i64 0] 97))
    have n2 := Aside0.mk (Kd.R_alloc (Kd.R_mono (ok' := fun k => w1.heap.size ≤ k ∧ k < w9.heap.size) (Kd.R_bound HR.out) (fun k hk => ⟨hk.1, hk.2.2.1⟩)) (Obj.cells #[.int .i64 (wrap64 (Go.bits .and .i64 x_7 127 + 1)), .bool (decide (128 ≤ x_7)), .int .i64 0, .int .i64 0] 97))
    clear B1 HR
    have B1 := n1
    have HR := n2
    clear n1 n2
    have hgc : w9.heap.size ≠ ra := by omega
    have hgg : w9.heap.size ≠ g := by omega
    (try simp only [rdn] at hs)
    cases hq8 : marker_ReadUint.f kk l (wrap64 (p + 1)) 1 with
    | none => rw [hq8] at hs; exact absurd hs (by simp)
    | some q8 =>
    obtain ⟨x_8, y_8⟩ := q8
    rw [hq8] at hs
    simp only [Option.bind_some] at hs
    by_cases hy8 : y_8 = 0
    rotate_left
    · rw [if_neg hy8] at hs
      obtain rfl : (y_8, [], 0) = t := Option.some.inj hs
      have ht := HT.out
      rw [if_neg hy8] at ht
      simp only [badSize, Prod.mk.injEq] at ht
      have he := Aside0.mk ht.1
      clear hs HT ht
      go_wp2_with (go_at_call 49; (with_reducible refine (reader_uint.calls kk ra A c l (wrap64 (p + 1)) 1 x_8 y_8 _ S1a.br (Kd.C_below hC S1a.below) hc hq8).mono ?_); rintro en w' (⟨hne, _, _⟩ | ⟨_, rfl, hd⟩); exact absurd hne hy8)
      obtain rfl := he.out
      exact ⟨rfl, (S1a.drawn hd).only, .inr ⟨_, rfl, rfl, hy8⟩⟩
    rw [if_pos hy8] at hs
    have hs' := Aside0.mk hs
    clear hs
    go_wp2_with (first | (go_at_call 49; (with_reducible refine (reader_uint.calls kk ra A c l (wrap64 (p + 1)) 1 x_8 y_8 _ S1a.br (Kd.C_below hC S1a.below) hc hq8).mono ?_); rintro en w10 (⟨_, rfl, hd⟩ | ⟨hne, _, _⟩); rotate_left; (exact absurd hy8 hne); have S2 := S1a.read (p' := wrap64 (wrap64 (p + 1) + 1)) l0 (.inr rfl) _ hd rfl; have n1 := Aside0.mk (RS.far B1.out hr1 hd); have n2 := Aside0.mk (RS.readR HR.out (fun k hk => by omega) hd); have n3 := Aside0.mk (RS.far BC.out hgc hd); clear B1 HR BC hd; have B1 := n1; have HR := n2; have BC := n3; clear n1 n2 n3))
    have hs := hs'.out
    clear hs'
    (try simp only [rdn] at hs)
    cases hq9 : marker_ReadUint.f kk l (wrap64 (wrap64 (p + 1) + 1)) 1 with
    | none => rw [hq9] at hs; exact absurd hs (by simp)
    | some q9 =>
    obtain ⟨x_9, y_9⟩ := q9
    rw [hq9] at hs
    simp only [Option.bind_some] at hs
    by_cases hy9 : y_9 = 0
    rotate_left
    · rw [if_neg hy9] at hs
      obtain rfl : (y_9, [], 0) = t := Option.some.inj hs
      have ht := HT.out
      rw [if_neg hy9] at ht
      simp only [badSize, Prod.mk.injEq] at ht
      have he := Aside0.mk ht.1
      clear hs HT ht
      go_wp2_with (go_at_call 49; (with_reducible refine (reader_uint.calls kk ra A c l (wrap64 (wrap64 (p + 1) + 1)) 1 x_9 y_9 _ S2.br (Kd.C_below hC S2.below) hc hq9).mono ?_); rintro en w' (⟨hne, _, _⟩ | ⟨_, rfl, hd⟩); exact absurd hne hy9)
      obtain rfl := he.out
      exact ⟨rfl, (S2.drawn hd).only, .inr ⟨_, rfl, rfl, hy9⟩⟩
    rw [if_pos hy9] at hs
    have hs' := Aside0.mk hs
    clear hs
    go_wp2_with (first | (go_at_call 49; (with_reducible refine (reader_uint.calls kk ra A c l (wrap64 (wrap64 (p + 1) + 1)) 1 x_9 y_9 _ S2.br (Kd.C_below hC S2.below) hc hq9).mono ?_); rintro en w11 (⟨_, rfl, hd⟩ | ⟨hne, _, _⟩); rotate_left; (exact absurd hy9 hne); have S3 := S2.read (p' := wrap64 (wrap64 (wrap64 (p + 1) + 1) + 1)) l0 (.inr rfl) _ hd rfl; have n1 := Aside0.mk (RS.far B1.out hr1 hd); have n2 := Aside0.mk (RS.readR HR.out (fun k hk => by omega) hd); have n3 := Aside0.mk (RS.far BC.out hgc hd); clear B1 HR BC hd; have B1 := n1; have HR := n2; have BC := n3; clear n1 n2 n3; have hc2 : w11.cell? ⟨w9.heap.size, 2, none⟩ = some (.int .i64 0) := (blk_cell BC.out 2).trans rfl; have hc3 : w11.cell? ⟨w9.heap.size, 3, none⟩ = some (.int .i64 0) := (blk_cell BC.out 3).trans rfl; have hz2 := blk_frozen BC.out 2; have hz3 := blk_frozen BC.out 3; have hc0 : w11.cell? ⟨w9.heap.size, 0, none⟩ = some (.int .i64 (wrap64 (Go.bits .and .i64 x_7 127 + 1))) := (blk_cell BC.out 0).trans rfl; have hc1 : w11.cell? ⟨w9.heap.size, 1, none⟩ = some (.bool (decide (128 ≤ x_7))) := (blk_cell BC.out 1).trans rfl; have hg6 : w11.cell? ⟨g, 6, none⟩ = some v := (blk_cell B1.out 6).trans rfl) | ((with_reducible refine gate_builtin (b := .append) (xs := #[.tmp 49, .tmp 51]) rfl ?_); (try (refine gate_guard (by rfl) ?_; dsimp only)); at_builtin; refine Kd.R_append k97 (w0 := wb) wb.heap.size rfl (.tmp 49) (.tmp 51) 65 97 (.agg #[.int .i64 0, .bool false, .int .i64 0, .int .i64 0]) 32 rfl Try.underlying65 info97 rfl (by decide) (by omega) v ys ⟨wrap64 (Go.bits .and .i64 x_7 127 + 1), decide (x_7 ≥ 128), x_8, x_9⟩ [.int .i64 (wrap64 (Go.bits .and .i64 x_7 127 + 1)), .bool (decide (128 ≤ x_7)), .int .i64 x_8, .int .i64 x_9] (fun k => w1.heap.size ≤ k) (fun _ => False) rfl (congrArg (fun s => Value.slice (some ⟨s, 0, none⟩) 1 1) (show w11.heap.size = ((w11.setCell ⟨w9.heap.size, 2, none⟩ (.int .i64 x_8)).setCell ⟨w9.heap.size, 3, none⟩ (.int .i64 x_9)).heap.size by simp)) ?aP (fun _ hk => hk.elim) ?aF ?aO ?aB ?aS ?aL ?_; (case aP => exact k97_mkM _ _ _ ⟨wrap64 (Go.bits .and .i64 x_7 127 + 1), decide (x_7 ≥ 128), x_8, x_9⟩); (case aF => exact fun k hk => by have h1 := S3.only.size; simp at hk; omega); (case aO => exact Kd.R_mono (Kd.R_far (p := ⟨w9.heap.size, 3, none⟩) (Kd.R_far (p := ⟨w9.heap.size, 2, none⟩) HR.out (fun k hk => by have := hk.2; show k ≠ w9.heap.size; omega) (.int .i64 x_8)) (fun k hk => by have := hk.2; show k ≠ w9.heap.size; omega) (.int .i64 x_9)) (fun k hk => hk.1)); (case aB => exact (S3.below.setCell (p := ⟨w9.heap.size, 2, none⟩) (by show _ ≤ w9.heap.size; omega) _).setCell (p := ⟨w9.heap.size, 3, none⟩) (by show _ ≤ w9.heap.size; omega) _); (case aS => have h1 := S3.below.size; simp; omega); (case aL => omega); intro v2 w12 ho hb hg hat; have hrow := fun k (hk : v.ownBlock = some k) => (HR.out.1 k hk).1; have S4 := ((S3.storeN hS1 (by have := S1.below.size; omega) hgc 2 (.int .i64 x_8)).storeN hS1 (by have := S1.below.size; omega) hgc 3 (.int .i64 x_9)).grown hb hg hrow hlr; have B2 := Aside0.mk (blk_grown (blk_far (blk_far B1.out (p := ⟨w9.heap.size, 2, none⟩) (Ne.symm hgg) (.int .i64 x_8)) (p := ⟨w9.heap.size, 3, none⟩) (Ne.symm hgg) (.int .i64 x_9)) hg (fun he => by have := hrow g he.symm; omega)); have HR2 := Aside0.mk ho; clear B1 HR BC hb hat ho; obtain ⟨A2, c2, rfl⟩ := Kd.R_slice HR2.out; have hk6 : w12.cell? ⟨g, 6, none⟩ = some v := (blk_cell B2.out 6).trans rfl; have hkz6 := blk_frozen B2.out 6))
    have hs := hs'.out
    clear hs'
    go_roundg kk
    case measure => omega
    case rel => exact ⟨_, _, ys ++ [⟨wrap64 (Go.bits .and .i64 x_7 127 + 1), decide (x_7 ≥ 128), x_8, x_9⟩], _, rfl, ⟨hs⟩, S4.store l1 (.inl rfl) hr1 6 _, ⟨blk_put B2.out 6 _ rfl⟩, ⟨by have h6 := Kd.R_far (p := ⟨g, 6, none⟩) HR2.out (fun k hk => by show k ≠ g; omega) (.slice A2 (ys.length + 1) c2); simpa using h6⟩⟩

def headseg_ParseSize.f (k : Nat) (a0_0 : Int) (l0_1 : List Int) : Option (Int × Int × Int × Int × Int × Int × (List (S97)) × Int) :=
  (sizeRead k l0_1).bind fun t => if a0_0 = 65441 then (if t.1 = 0 then (if t.2.2.2.2.2.2.2.2 < (l0_1.length : Int) then some (0, 0, 0, 0, 0, 0, [], 9) else
    (params_Header.f k t.2.1 t.2.2.1 t.2.2.2.1 t.2.2.2.2.1 t.2.2.2.2.2.1 t.2.2.2.2.2.2.1 t.2.2.2.2.2.2.2.1).bind fun r => some (if r = 0 then (t.2.1, t.2.2.1, t.2.2.2.1, t.2.2.2.2.1, t.2.2.2.2.2.1, t.2.2.2.2.2.2.1, t.2.2.2.2.2.2.2.1, 0) else (0, 0, 0, 0, 0, 0, [], r))) else some (0, 0, 0, 0, 0, 0, [], t.1)) else some (0, 0, 0, 0, 0, 0, [], 11)
theorem headseg_ParseSize.mono : ∀ a0 a1 k, LeO (headseg_ParseSize.f k a0 a1) (headseg_ParseSize.f (k + 1) a0 a1) := by
  intro a0 a1 k
  exact LeO.bind (sizeRead.mono k a1) (fun _ => LeO.ite (LeO.ite (LeO.ite (LeO.refl _) (LeO.bind (params_Header.mono _ _ _ _ _ _ _ _) (fun _ => LeO.refl _))) (LeO.refl _)) (LeO.refl _))

set_option maxHeartbeats 8000000 in
set_option maxRecDepth 100000 in
theorem headseg_ParseSize.calls (k : Nat) (a0_0 : Int) (A0_1 : Option Addr) (c0_1 : Nat) (l0_1 : List Int) (r1 : Int) (r2 : Int) (r3 : Int) (r4 : Int) (r5 : Int) (r6 : Int) (r7 : List (S97)) (r8 : Int) (w : World) (hr0_1 : Kd.C (Kd.int .u8) w A0_1 l0_1.length l0_1) (hc0_1 : l0_1.length ≤ c0_1) (h : headseg_ParseSize.f k a0_0 l0_1 = some (r1, r2, r3, r4, r5, r6, r7, r8)) :
    Calls Try.prog 39 #[.agg #[.int .i64 a0_0, .slice A0_1 l0_1.length c0_1]] w fun e w' => ∃ v6_ : Value, e = .returned (.tuple #[.agg #[.int .i64 r1, .int .i64 r2, .int .i64 r3, .int .i64 r4, .int .i64 r5, .int .i64 r6, v6_], .int .i64 r8]) ∧ Kd.R k97 97 w' w.heap.size (fun _ => True) v6_ r7 ∧ Below w.heap.size w w' := by
  cases ht : sizeRead k l0_1 with
  | none => simp [headseg_ParseSize.f, ht] at h
  | some t =>
  obtain ⟨e, x0, y0, x1, y1, tw, th, xs, pe⟩ := t
  simp only [headseg_ParseSize.f, ht, Option.bind_some] at h
  have H := Aside0.mk h
  have HT := Aside0.mk ht
  have HR := Aside0.mk hr0_1
  have HC := Aside0.mk hc0_1
  clear h ht hr0_1 hc0_1
  have hmf : ∀ (fn : Fn) (first cap : Array Value) (w : World), (Instr.makeFunc fn first cap).run Try.prog w = .ok (.func fn first cap) w := fun _ _ _ _ => rfl
  go_enter Try.func39, Try.ntmps39
  go_wp2_with (go_at_call 47; fail)
  generalize hW : ((w.alloc (Obj.cells #[Value.int IntKind.i64 a0_0, Value.slice A0_1 l0_1.length c0_1] 26)).alloc (Obj.cells #[Value.int IntKind.i64 0, Value.int IntKind.i64 0, Value.int IntKind.i64 0, Value.int IntKind.i64 0, Value.int IntKind.i64 0, Value.int IntKind.i64 0, Value.slice none 0 0] 67)).alloc (Obj.cells #[Value.int IntKind.i64 0, Value.int IntKind.i64 0, Value.int IntKind.i64 0, Value.int IntKind.i64 0, Value.int IntKind.i64 0, Value.int IntKind.i64 0, Value.slice none 0 0] 67) = W0
  have hsz : W0.heap.size = w.heap.size + 3 := by rw [← hW]; simp
  have HB : Below w.heap.size w W0 := by rw [← hW]; exact below_alloc (below_alloc (below_alloc (Below.refl _ _) _) _) _
  generalize h2 : w.heap.size + 1 + 1 = g
  generalize h1 : w.heap.size + 1 = g2
  have nb : ∀ (V : World) (g : Nat) (o : Obj), V.heap.size = g → (V.alloc o).heap[g]? = some o := fun V g o h => h ▸ blk_new V _
  have b1 : W0.heap[g]? = some (.cells #[.int .i64 0, .int .i64 0, .int .i64 0, .int .i64 0, .int .i64 0, .int .i64 0, .slice none 0 0] 67 (0, 0)) := by rw [← hW]; exact nb _ g _ (by simp; omega)
  have b2 : W0.heap[g2]? = some (.cells #[.int .i64 0, .int .i64 0, .int .i64 0, .int .i64 0, .int .i64 0, .int .i64 0, .slice none 0 0] 67 (0, 0)) := by rw [← hW]; exact blk_alloc (nb _ g2 _ (by simp; omega)) _
  clear hW nb
  refine (parse.calls 62 (fun _ _ => by simp [go_sem]) #[.pointer (some ⟨g, 0, none⟩)] (fun ra => #[.pointer (some ⟨ra, 0, none⟩), .pointer (some ⟨g, 0, none⟩)]) (fun _ => by simp) (fun k => k = g) a0_0 65441 A0_1 c0_1 l0_1 W0 (Kd.C_below HR.out HB) HC.out
    (fun p w2 => e = 0 ∧ p = pe ∧ ∃ v, w2.heap[g]? = some (.cells #[.int .i64 x0, .int .i64 y0, .int .i64 x1, .int .i64 y1, .int .i64 tw, .int .i64 th, v] 67 (0, 0)) ∧ Kd.R k97 97 w2 w.heap.size (fun k => W0.heap.size + 3 ≤ k) v xs)
    (fun e' w2 => e' = e ∧ e ≠ 0) (fun k hk => by omega) ?ok ?err ?cl).mono ?_
  case ok => exact fun p u1 u2 ⟨q1, q2, v, q3, q4⟩ ho => ⟨q1, q2, v, ho.blk q3 (by omega), Kd.R_step q4 (fun k hk hlt => ho.block k hlt (by omega))⟩
  case err => exact fun p u1 u2 q ho => q
  case cl => exact fun w1 hb1 hra hbr => (size_closure k w w1 A0_1 c0_1 l0_1 HR.out HC.out (W0.heap.size + 2) g (by omega) (by omega) (by omega) (by omega) (by omega) (HB.trans (hb1.mono (by omega))) hbr (by rw [hb1.block g (by omega)]; exact b1) e x0 y0 x1 y1 tw th xs pe HT.out).mono (fun en w2 ⟨q1, q2⟩ => ⟨q1, q2.imp (fun ⟨p, p1, p2, p3, p4, v, p5, p6⟩ => ⟨p, p1, p2, p3, p4, v, p5, Kd.R_mono p6 (fun k hk => by omega)⟩) id⟩)
  rintro en w2 ⟨y, rfl, ho, hcase⟩
  have HB2 : Below w.heap.size w w2 := HB.trans (ho.below (by omega) (by omega))
  have b22 := ho.blk b2 (by omega)
  have ng : g ≠ g2 := by omega
  have hgw : w.heap.size ≤ g2 := by omega
  have hcase' : (y ≠ 0 ∧ (r1, r2, r3, r4, r5, r6, r7, r8) = (0, 0, 0, 0, 0, 0, [], y)) ∨ (y = 0 ∧ (params_Header.f k x0 y0 x1 y1 tw th xs).bind (fun r => some (if r = 0 then (x0, y0, x1, y1, tw, th, xs, 0) else (0, 0, 0, 0, 0, 0, [], r))) = some (r1, r2, r3, r4, r5, r6, r7, r8) ∧ ∃ v, w2.heap[g]? = some (.cells #[.int .i64 x0, .int .i64 y0, .int .i64 x1, .int .i64 y1, .int .i64 tw, .int .i64 th, v] 67 (0, 0)) ∧ Kd.R k97 97 w2 w.heap.size (fun k => W0.heap.size + 3 ≤ k) v xs) := by
    have h := H.out
    rcases hcase with ⟨hne, rfl, h11⟩ | ⟨heq, ⟨p, ⟨rfl, rfl, v, q3, q4⟩, hy⟩ | ⟨rfl, q2⟩⟩
    · rw [if_neg hne] at h
      exact .inl ⟨by decide, (Option.some.inj h).symm⟩
    · rw [if_pos heq, if_pos rfl] at h
      by_cases h8 : p < (l0_1.length : Int)
      · rw [if_pos h8] at h hy
        subst hy
        exact .inl ⟨by decide, (Option.some.inj h).symm⟩
      · rw [if_neg h8] at h hy
        exact .inr ⟨hy, h, v, q3, q4⟩
    · rw [if_pos heq, if_neg q2] at h
      exact .inl ⟨q2, (Option.some.inj h).symm⟩
  clear hcase b1 b2 HB ho H HT HR HC
  have HB3 := Aside0.mk HB2
  have c0 : w2.cell? ⟨g2, 0, none⟩ = some (.int .i64 0) := (blk_cell b22 0).trans rfl
  have c1 : w2.cell? ⟨g2, 1, none⟩ = some (.int .i64 0) := (blk_cell b22 1).trans rfl
  have c2 : w2.cell? ⟨g2, 2, none⟩ = some (.int .i64 0) := (blk_cell b22 2).trans rfl
  have c3 : w2.cell? ⟨g2, 3, none⟩ = some (.int .i64 0) := (blk_cell b22 3).trans rfl
  have c4 : w2.cell? ⟨g2, 4, none⟩ = some (.int .i64 0) := (blk_cell b22 4).trans rfl
  have c5 : w2.cell? ⟨g2, 5, none⟩ = some (.int .i64 0) := (blk_cell b22 5).trans rfl
  have c6 : w2.cell? ⟨g2, 6, none⟩ = some (.slice none 0 0) := (blk_cell b22 6).trans rfl
  have z0 := blk_frozen b22 0
  have z1 := blk_frozen b22 1
  have z2 := blk_frozen b22 2
  have z3 := blk_frozen b22 3
  have z4 := blk_frozen b22 4
  have z5 := blk_frozen b22 5
  have z6 := blk_frozen b22 6
  rcases hcase' with ⟨hy, hr⟩ | ⟨hy, hf, v, bg, hR⟩
  · have hy0 : (y == 0) = false := by simpa using hy
    have hy' : (y != 0) = true := by simpa using hy
    go_wp2
    have hbz : (((((((w2.setCell ⟨g2, 0, none⟩ (.int .i64 0)).setCell ⟨g2, 1, none⟩ (.int .i64 0)).setCell ⟨g2, 2, none⟩ (.int .i64 0)).setCell ⟨g2, 3, none⟩ (.int .i64 0)).setCell ⟨g2, 4, none⟩ (.int .i64 0)).setCell ⟨g2, 5, none⟩ (.int .i64 0)).setCell ⟨g2, 6, none⟩ (.slice none 0 0)).heap[g2]? = some (.cells #[.int .i64 0, .int .i64 0, .int .i64 0, .int .i64 0, .int .i64 0, .int .i64 0, .slice none 0 0] 67 (0, 0)) := setL_full b22 [(.int .i64 0), (.int .i64 0), (.int .i64 0), (.int .i64 0), (.int .i64 0), (.int .i64 0), (.slice none 0 0)] rfl
    have hBz : Below w.heap.size w (((((((w2.setCell ⟨g2, 0, none⟩ (.int .i64 0)).setCell ⟨g2, 1, none⟩ (.int .i64 0)).setCell ⟨g2, 2, none⟩ (.int .i64 0)).setCell ⟨g2, 3, none⟩ (.int .i64 0)).setCell ⟨g2, 4, none⟩ (.int .i64 0)).setCell ⟨g2, 5, none⟩ (.int .i64 0)).setCell ⟨g2, 6, none⟩ (.slice none 0 0)) := setL_below hgw [(.int .i64 0), (.int .i64 0), (.int .i64 0), (.int .i64 0), (.int .i64 0), (.int .i64 0), (.slice none 0 0)] _ 0 HB3.out
    have q0 : (((((((w2.setCell ⟨g2, 0, none⟩ (.int .i64 0)).setCell ⟨g2, 1, none⟩ (.int .i64 0)).setCell ⟨g2, 2, none⟩ (.int .i64 0)).setCell ⟨g2, 3, none⟩ (.int .i64 0)).setCell ⟨g2, 4, none⟩ (.int .i64 0)).setCell ⟨g2, 5, none⟩ (.int .i64 0)).setCell ⟨g2, 6, none⟩ (.slice none 0 0)).cell? ⟨g2, 0, none⟩ = some (.int .i64 0) := (blk_cell hbz 0).trans rfl
    have q1 : (((((((w2.setCell ⟨g2, 0, none⟩ (.int .i64 0)).setCell ⟨g2, 1, none⟩ (.int .i64 0)).setCell ⟨g2, 2, none⟩ (.int .i64 0)).setCell ⟨g2, 3, none⟩ (.int .i64 0)).setCell ⟨g2, 4, none⟩ (.int .i64 0)).setCell ⟨g2, 5, none⟩ (.int .i64 0)).setCell ⟨g2, 6, none⟩ (.slice none 0 0)).cell? ⟨g2, 1, none⟩ = some (.int .i64 0) := (blk_cell hbz 1).trans rfl
    have q2 : (((((((w2.setCell ⟨g2, 0, none⟩ (.int .i64 0)).setCell ⟨g2, 1, none⟩ (.int .i64 0)).setCell ⟨g2, 2, none⟩ (.int .i64 0)).setCell ⟨g2, 3, none⟩ (.int .i64 0)).setCell ⟨g2, 4, none⟩ (.int .i64 0)).setCell ⟨g2, 5, none⟩ (.int .i64 0)).setCell ⟨g2, 6, none⟩ (.slice none 0 0)).cell? ⟨g2, 2, none⟩ = some (.int .i64 0) := (blk_cell hbz 2).trans rfl
    have q3 : (((((((w2.setCell ⟨g2, 0, none⟩ (.int .i64 0)).setCell ⟨g2, 1, none⟩ (.int .i64 0)).setCell ⟨g2, 2, none⟩ (.int .i64 0)).setCell ⟨g2, 3, none⟩ (.int .i64 0)).setCell ⟨g2, 4, none⟩ (.int .i64 0)).setCell ⟨g2, 5, none⟩ (.int .i64 0)).setCell ⟨g2, 6, none⟩ (.slice none 0 0)).cell? ⟨g2, 3, none⟩ = some (.int .i64 0) := (blk_cell hbz 3).trans rfl
    have q4 : (((((((w2.setCell ⟨g2, 0, none⟩ (.int .i64 0)).setCell ⟨g2, 1, none⟩ (.int .i64 0)).setCell ⟨g2, 2, none⟩ (.int .i64 0)).setCell ⟨g2, 3, none⟩ (.int .i64 0)).setCell ⟨g2, 4, none⟩ (.int .i64 0)).setCell ⟨g2, 5, none⟩ (.int .i64 0)).setCell ⟨g2, 6, none⟩ (.slice none 0 0)).cell? ⟨g2, 4, none⟩ = some (.int .i64 0) := (blk_cell hbz 4).trans rfl
    have q5 : (((((((w2.setCell ⟨g2, 0, none⟩ (.int .i64 0)).setCell ⟨g2, 1, none⟩ (.int .i64 0)).setCell ⟨g2, 2, none⟩ (.int .i64 0)).setCell ⟨g2, 3, none⟩ (.int .i64 0)).setCell ⟨g2, 4, none⟩ (.int .i64 0)).setCell ⟨g2, 5, none⟩ (.int .i64 0)).setCell ⟨g2, 6, none⟩ (.slice none 0 0)).cell? ⟨g2, 5, none⟩ = some (.int .i64 0) := (blk_cell hbz 5).trans rfl
    have q6 : (((((((w2.setCell ⟨g2, 0, none⟩ (.int .i64 0)).setCell ⟨g2, 1, none⟩ (.int .i64 0)).setCell ⟨g2, 2, none⟩ (.int .i64 0)).setCell ⟨g2, 3, none⟩ (.int .i64 0)).setCell ⟨g2, 4, none⟩ (.int .i64 0)).setCell ⟨g2, 5, none⟩ (.int .i64 0)).setCell ⟨g2, 6, none⟩ (.slice none 0 0)).cell? ⟨g2, 6, none⟩ = some (.slice none 0 0) := (blk_cell hbz 6).trans rfl
    simp only [Prod.mk.injEq] at hr
    obtain ⟨rfl, rfl, rfl, rfl, rfl, rfl, rfl, rfl⟩ := hr
    exact bodyPost_ret (v := .tuple #[.agg #[.int .i64 0, .int .i64 0, .int .i64 0, .int .i64 0, .int .i64 0, .int .i64 0, .slice none 0 0], .int .i64 r8]) (by simp [results, Try.results39, go_sem, q0, q1, q2, q3, q4, q5, q6]) rfl ⟨_, rfl, Kd.R_nil k97 97 _ _ _, hBz⟩
  · subst hy
    cases hp : params_Header.f k x0 y0 x1 y1 tw th xs with
    | none => rw [hp] at hf; exact absurd hf (by simp)
    | some r =>
    rw [hp] at hf
    have hr := Option.some.inj hf
    clear hf
    obtain ⟨A, cc, rfl⟩ := Kd.R_slice hR
    obtain ⟨-, hlc, hCC⟩ := Kd.R_reads' hR
    have HRR := Aside0.mk hR
    have HCC := Aside0.mk hCC
    have HLC := Aside0.mk hlc
    have HPP := Aside0.mk hp
    have BG := Aside0.mk bg
    have BZ := Aside0.mk b22
    clear hR hCC hlc hp
    have d0 : w2.cell? ⟨g, 0, none⟩ = some (.int .i64 x0) := (blk_cell bg 0).trans rfl
    have d1 : w2.cell? ⟨g, 1, none⟩ = some (.int .i64 y0) := (blk_cell bg 1).trans rfl
    have d2 : w2.cell? ⟨g, 2, none⟩ = some (.int .i64 x1) := (blk_cell bg 2).trans rfl
    have d3 : w2.cell? ⟨g, 3, none⟩ = some (.int .i64 y1) := (blk_cell bg 3).trans rfl
    have d4 : w2.cell? ⟨g, 4, none⟩ = some (.int .i64 tw) := (blk_cell bg 4).trans rfl
    have d5 : w2.cell? ⟨g, 5, none⟩ = some (.int .i64 th) := (blk_cell bg 5).trans rfl
    have d6 : w2.cell? ⟨g, 6, none⟩ = some (.slice A xs.length cc) := (blk_cell bg 6).trans rfl
    clear bg b22
    clear c0 c1 c2 c3 c4 c5 c6 z0 z1 z2 z3 z4 z5 z6
    have hr' := Aside0.mk hr
    clear hr
    by_cases hr0 : r = 0
    · subst hr0
      go_wp2_with (go_at_call 60; (with_reducible refine (params_Header.calls k x0 y0 x1 y1 tw th A cc xs 0 _ HCC.out HLC.out HPP.out).mono ?_); rintro en w3 ⟨rfl, hb⟩; have n1 := Aside0.mk (blk_below BZ.out hb); have n2 := Aside0.mk (blk_below BG.out hb); have n3 := Aside0.mk (Kd.R_below HRR.out hb); have n4 := Aside0.mk (below_then HB3.out HB3.out.size hb); clear BZ BG HRR HB3 HB2 HCC d0 d1 d2 d3 d4 d5 d6; have BZ := n1; have BG := n2; have HRR := n3; have HB3 := n4; clear n1 n2 n3 n4 hb; have c0 : w3.cell? ⟨g2, 0, none⟩ = some (.int .i64 0) := (blk_cell BZ.out 0).trans rfl; have z0 := blk_frozen BZ.out 0; have d0 : w3.cell? ⟨g, 0, none⟩ = some (.int .i64 x0) := (blk_cell BG.out 0).trans rfl; have c1 : w3.cell? ⟨g2, 1, none⟩ = some (.int .i64 0) := (blk_cell BZ.out 1).trans rfl; have z1 := blk_frozen BZ.out 1; have d1 : w3.cell? ⟨g, 1, none⟩ = some (.int .i64 y0) := (blk_cell BG.out 1).trans rfl; have c2 : w3.cell? ⟨g2, 2, none⟩ = some (.int .i64 0) := (blk_cell BZ.out 2).trans rfl; have z2 := blk_frozen BZ.out 2; have d2 : w3.cell? ⟨g, 2, none⟩ = some (.int .i64 x1) := (blk_cell BG.out 2).trans rfl; have c3 : w3.cell? ⟨g2, 3, none⟩ = some (.int .i64 0) := (blk_cell BZ.out 3).trans rfl; have z3 := blk_frozen BZ.out 3; have d3 : w3.cell? ⟨g, 3, none⟩ = some (.int .i64 y1) := (blk_cell BG.out 3).trans rfl; have c4 : w3.cell? ⟨g2, 4, none⟩ = some (.int .i64 0) := (blk_cell BZ.out 4).trans rfl; have z4 := blk_frozen BZ.out 4; have d4 : w3.cell? ⟨g, 4, none⟩ = some (.int .i64 tw) := (blk_cell BG.out 4).trans rfl; have c5 : w3.cell? ⟨g2, 5, none⟩ = some (.int .i64 0) := (blk_cell BZ.out 5).trans rfl; have z5 := blk_frozen BZ.out 5; have d5 : w3.cell? ⟨g, 5, none⟩ = some (.int .i64 th) := (blk_cell BG.out 5).trans rfl; have c6 : w3.cell? ⟨g2, 6, none⟩ = some (.slice none 0 0) := (blk_cell BZ.out 6).trans rfl; have z6 := blk_frozen BZ.out 6; have d6 : w3.cell? ⟨g, 6, none⟩ = some (.slice A xs.length cc) := (blk_cell BG.out 6).trans rfl)
      have hr := hr'.out
      simp only [if_true] at hr
      simp only [Prod.mk.injEq] at hr
      obtain ⟨rfl, rfl, rfl, rfl, rfl, rfl, rfl, rfl⟩ := hr
      have hbz : (((((((w3.setCell ⟨g2, 0, none⟩ (.int .i64 x0)).setCell ⟨g2, 1, none⟩ (.int .i64 y0)).setCell ⟨g2, 2, none⟩ (.int .i64 x1)).setCell ⟨g2, 3, none⟩ (.int .i64 y1)).setCell ⟨g2, 4, none⟩ (.int .i64 tw)).setCell ⟨g2, 5, none⟩ (.int .i64 th)).setCell ⟨g2, 6, none⟩ (.slice A xs.length cc)).heap[g2]? = some (.cells #[.int .i64 x0, .int .i64 y0, .int .i64 x1, .int .i64 y1, .int .i64 tw, .int .i64 th, .slice A xs.length cc] 67 (0, 0)) := setL_full BZ.out [(.int .i64 x0), (.int .i64 y0), (.int .i64 x1), (.int .i64 y1), (.int .i64 tw), (.int .i64 th), (.slice A xs.length cc)] rfl
      have hBz : Below w.heap.size w (((((((w3.setCell ⟨g2, 0, none⟩ (.int .i64 x0)).setCell ⟨g2, 1, none⟩ (.int .i64 y0)).setCell ⟨g2, 2, none⟩ (.int .i64 x1)).setCell ⟨g2, 3, none⟩ (.int .i64 y1)).setCell ⟨g2, 4, none⟩ (.int .i64 tw)).setCell ⟨g2, 5, none⟩ (.int .i64 th)).setCell ⟨g2, 6, none⟩ (.slice A xs.length cc)) := setL_below hgw [(.int .i64 x0), (.int .i64 y0), (.int .i64 x1), (.int .i64 y1), (.int .i64 tw), (.int .i64 th), (.slice A xs.length cc)] _ 0 HB3.out
      have q0 : (((((((w3.setCell ⟨g2, 0, none⟩ (.int .i64 x0)).setCell ⟨g2, 1, none⟩ (.int .i64 y0)).setCell ⟨g2, 2, none⟩ (.int .i64 x1)).setCell ⟨g2, 3, none⟩ (.int .i64 y1)).setCell ⟨g2, 4, none⟩ (.int .i64 tw)).setCell ⟨g2, 5, none⟩ (.int .i64 th)).setCell ⟨g2, 6, none⟩ (.slice A xs.length cc)).cell? ⟨g2, 0, none⟩ = some (.int .i64 x0) := (blk_cell hbz 0).trans rfl
      have q1 : (((((((w3.setCell ⟨g2, 0, none⟩ (.int .i64 x0)).setCell ⟨g2, 1, none⟩ (.int .i64 y0)).setCell ⟨g2, 2, none⟩ (.int .i64 x1)).setCell ⟨g2, 3, none⟩ (.int .i64 y1)).setCell ⟨g2, 4, none⟩ (.int .i64 tw)).setCell ⟨g2, 5, none⟩ (.int .i64 th)).setCell ⟨g2, 6, none⟩ (.slice A xs.length cc)).cell? ⟨g2, 1, none⟩ = some (.int .i64 y0) := (blk_cell hbz 1).trans rfl
      have q2 : (((((((w3.setCell ⟨g2, 0, none⟩ (.int .i64 x0)).setCell ⟨g2, 1, none⟩ (.int .i64 y0)).setCell ⟨g2, 2, none⟩ (.int .i64 x1)).setCell ⟨g2, 3, none⟩ (.int .i64 y1)).setCell ⟨g2, 4, none⟩ (.int .i64 tw)).setCell ⟨g2, 5, none⟩ (.int .i64 th)).setCell ⟨g2, 6, none⟩ (.slice A xs.length cc)).cell? ⟨g2, 2, none⟩ = some (.int .i64 x1) := (blk_cell hbz 2).trans rfl
      have q3 : (((((((w3.setCell ⟨g2, 0, none⟩ (.int .i64 x0)).setCell ⟨g2, 1, none⟩ (.int .i64 y0)).setCell ⟨g2, 2, none⟩ (.int .i64 x1)).setCell ⟨g2, 3, none⟩ (.int .i64 y1)).setCell ⟨g2, 4, none⟩ (.int .i64 tw)).setCell ⟨g2, 5, none⟩ (.int .i64 th)).setCell ⟨g2, 6, none⟩ (.slice A xs.length cc)).cell? ⟨g2, 3, none⟩ = some (.int .i64 y1) := (blk_cell hbz 3).trans rfl
      have q4 : (((((((w3.setCell ⟨g2, 0, none⟩ (.int .i64 x0)).setCell ⟨g2, 1, none⟩ (.int .i64 y0)).setCell ⟨g2, 2, none⟩ (.int .i64 x1)).setCell ⟨g2, 3, none⟩ (.int .i64 y1)).setCell ⟨g2, 4, none⟩ (.int .i64 tw)).setCell ⟨g2, 5, none⟩ (.int .i64 th)).setCell ⟨g2, 6, none⟩ (.slice A xs.length cc)).cell? ⟨g2, 4, none⟩ = some (.int .i64 tw) := (blk_cell hbz 4).trans rfl
      have q5 : (((((((w3.setCell ⟨g2, 0, none⟩ (.int .i64 x0)).setCell ⟨g2, 1, none⟩ (.int .i64 y0)).setCell ⟨g2, 2, none⟩ (.int .i64 x1)).setCell ⟨g2, 3, none⟩ (.int .i64 y1)).setCell ⟨g2, 4, none⟩ (.int .i64 tw)).setCell ⟨g2, 5, none⟩ (.int .i64 th)).setCell ⟨g2, 6, none⟩ (.slice A xs.length cc)).cell? ⟨g2, 5, none⟩ = some (.int .i64 th) := (blk_cell hbz 5).trans rfl
      have q6 : (((((((w3.setCell ⟨g2, 0, none⟩ (.int .i64 x0)).setCell ⟨g2, 1, none⟩ (.int .i64 y0)).setCell ⟨g2, 2, none⟩ (.int .i64 x1)).setCell ⟨g2, 3, none⟩ (.int .i64 y1)).setCell ⟨g2, 4, none⟩ (.int .i64 tw)).setCell ⟨g2, 5, none⟩ (.int .i64 th)).setCell ⟨g2, 6, none⟩ (.slice A xs.length cc)).cell? ⟨g2, 6, none⟩ = some (.slice A xs.length cc) := (blk_cell hbz 6).trans rfl
      have hRz := Kd.R_mono (setL_R (g := g2) (fun k hk => by omega) [(.int .i64 x0), (.int .i64 y0), (.int .i64 x1), (.int .i64 y1), (.int .i64 tw), (.int .i64 th), (.slice A xs.length cc)] w3 0 HRR.out) (ok' := fun _ => True) (fun _ _ => trivial)
      exact bodyPost_ret (v := .tuple #[.agg #[.int .i64 x0, .int .i64 y0, .int .i64 x1, .int .i64 y1, .int .i64 tw, .int .i64 th, .slice A xs.length cc], .int .i64 0]) (by simp [results, Try.results39, go_sem, q0, q1, q2, q3, q4, q5, q6]) rfl ⟨_, rfl, hRz, hBz⟩
    · have hr0' : (r == 0) = false := by simpa using hr0
      have hr1' : (r != 0) = true := by simpa using hr0
      go_wp2_with (go_at_call 60; (with_reducible refine (params_Header.calls k x0 y0 x1 y1 tw th A cc xs r _ HCC.out HLC.out HPP.out).mono ?_); rintro en w3 ⟨rfl, hb⟩; have n1 := Aside0.mk (blk_below BZ.out hb); have n2 := Aside0.mk (blk_below BG.out hb); have n4 := Aside0.mk (below_then HB3.out HB3.out.size hb); clear BZ BG HRR HB3 HB2 HCC d0 d1 d2 d3 d4 d5 d6; have BZ := n1; have BG := n2; have HB3 := n4; clear n1 n2 n4 hb; have c0 : w3.cell? ⟨g2, 0, none⟩ = some (.int .i64 0) := (blk_cell BZ.out 0).trans rfl; have z0 := blk_frozen BZ.out 0; have d0 : w3.cell? ⟨g, 0, none⟩ = some (.int .i64 x0) := (blk_cell BG.out 0).trans rfl; have c1 : w3.cell? ⟨g2, 1, none⟩ = some (.int .i64 0) := (blk_cell BZ.out 1).trans rfl; have z1 := blk_frozen BZ.out 1; have d1 : w3.cell? ⟨g, 1, none⟩ = some (.int .i64 y0) := (blk_cell BG.out 1).trans rfl; have c2 : w3.cell? ⟨g2, 2, none⟩ = some (.int .i64 0) := (blk_cell BZ.out 2).trans rfl; have z2 := blk_frozen BZ.out 2; have d2 : w3.cell? ⟨g, 2, none⟩ = some (.int .i64 x1) := (blk_cell BG.out 2).trans rfl; have c3 : w3.cell? ⟨g2, 3, none⟩ = some (.int .i64 0) := (blk_cell BZ.out 3).trans rfl; have z3 := blk_frozen BZ.out 3; have d3 : w3.cell? ⟨g, 3, none⟩ = some (.int .i64 y1) := (blk_cell BG.out 3).trans rfl; have c4 : w3.cell? ⟨g2, 4, none⟩ = some (.int .i64 0) := (blk_cell BZ.out 4).trans rfl; have z4 := blk_frozen BZ.out 4; have d4 : w3.cell? ⟨g, 4, none⟩ = some (.int .i64 tw) := (blk_cell BG.out 4).trans rfl; have c5 : w3.cell? ⟨g2, 5, none⟩ = some (.int .i64 0) := (blk_cell BZ.out 5).trans rfl; have z5 := blk_frozen BZ.out 5; have d5 : w3.cell? ⟨g, 5, none⟩ = some (.int .i64 th) := (blk_cell BG.out 5).trans rfl; have c6 : w3.cell? ⟨g2, 6, none⟩ = some (.slice none 0 0) := (blk_cell BZ.out 6).trans rfl; have z6 := blk_frozen BZ.out 6; have d6 : w3.cell? ⟨g, 6, none⟩ = some (.slice A xs.length cc) := (blk_cell BG.out 6).trans rfl)
      have hr := hr'.out
      rw [if_neg hr0] at hr
      simp only [Prod.mk.injEq] at hr
      obtain ⟨rfl, rfl, rfl, rfl, rfl, rfl, rfl, rfl⟩ := hr
      have hbz : (((((((w3.setCell ⟨g2, 0, none⟩ (.int .i64 0)).setCell ⟨g2, 1, none⟩ (.int .i64 0)).setCell ⟨g2, 2, none⟩ (.int .i64 0)).setCell ⟨g2, 3, none⟩ (.int .i64 0)).setCell ⟨g2, 4, none⟩ (.int .i64 0)).setCell ⟨g2, 5, none⟩ (.int .i64 0)).setCell ⟨g2, 6, none⟩ (.slice none 0 0)).heap[g2]? = some (.cells #[.int .i64 0, .int .i64 0, .int .i64 0, .int .i64 0, .int .i64 0, .int .i64 0, .slice none 0 0] 67 (0, 0)) := setL_full BZ.out [(.int .i64 0), (.int .i64 0), (.int .i64 0), (.int .i64 0), (.int .i64 0), (.int .i64 0), (.slice none 0 0)] rfl
      have hBz : Below w.heap.size w (((((((w3.setCell ⟨g2, 0, none⟩ (.int .i64 0)).setCell ⟨g2, 1, none⟩ (.int .i64 0)).setCell ⟨g2, 2, none⟩ (.int .i64 0)).setCell ⟨g2, 3, none⟩ (.int .i64 0)).setCell ⟨g2, 4, none⟩ (.int .i64 0)).setCell ⟨g2, 5, none⟩ (.int .i64 0)).setCell ⟨g2, 6, none⟩ (.slice none 0 0)) := setL_below hgw [(.int .i64 0), (.int .i64 0), (.int .i64 0), (.int .i64 0), (.int .i64 0), (.int .i64 0), (.slice none 0 0)] _ 0 HB3.out
      have q0 : (((((((w3.setCell ⟨g2, 0, none⟩ (.int .i64 0)).setCell ⟨g2, 1, none⟩ (.int .i64 0)).setCell ⟨g2, 2, none⟩ (.int .i64 0)).setCell ⟨g2, 3, none⟩ (.int .i64 0)).setCell ⟨g2, 4, none⟩ (.int .i64 0)).setCell ⟨g2, 5, none⟩ (.int .i64 0)).setCell ⟨g2, 6, none⟩ (.slice none 0 0)).cell? ⟨g2, 0, none⟩ = some (.int .i64 0) := (blk_cell hbz 0).trans rfl
      have q1 : (((((((w3.setCell ⟨g2, 0, none⟩ (.int .i64 0)).setCell ⟨g2, 1, none⟩ (.int .i64 0)).setCell ⟨g2, 2, none⟩ (.int .i64 0)).setCell ⟨g2, 3, none⟩ (.int .i64 0)).setCell ⟨g2, 4, none⟩ (.int .i64 0)).setCell ⟨g2, 5, none⟩ (.int .i64 0)).setCell ⟨g2, 6, none⟩ (.slice none 0 0)).cell? ⟨g2, 1, none⟩ = some (.int .i64 0) := (blk_cell hbz 1).trans rfl
      have q2 : (((((((w3.setCell ⟨g2, 0, none⟩ (.int .i64 0)).setCell ⟨g2, 1, none⟩ (.int .i64 0)).setCell ⟨g2, 2, none⟩ (.int .i64 0)).setCell ⟨g2, 3, none⟩ (.int .i64 0)).setCell ⟨g2, 4, none⟩ (.int .i64 0)).setCell ⟨g2, 5, none⟩ (.int .i64 0)).setCell ⟨g2, 6, none⟩ (.slice none 0 0)).cell? ⟨g2, 2, none⟩ = some (.int .i64 0) := (blk_cell hbz 2).trans rfl
      have q3 : (((((((w3.setCell ⟨g2, 0, none⟩ (.int .i64 0)).setCell ⟨g2, 1, none⟩ (.int .i64 0)).setCell ⟨g2, 2, none⟩ (.int .i64 0)).setCell ⟨g2, 3, none⟩ (.int .i64 0)).setCell ⟨g2, 4, none⟩ (.int .i64 0)).setCell ⟨g2, 5, none⟩ (.int .i64 0)).setCell ⟨g2, 6, none⟩ (.slice none 0 0)).cell? ⟨g2, 3, none⟩ = some (.int .i64 0) := (blk_cell hbz 3).trans rfl
      have q4 : (((((((w3.setCell ⟨g2, 0, none⟩ (.int .i64 0)).setCell ⟨g2, 1, none⟩ (.int .i64 0)).setCell ⟨g2, 2, none⟩ (.int .i64 0)).setCell ⟨g2, 3, none⟩ (.int .i64 0)).setCell ⟨g2, 4, none⟩ (.int .i64 0)).setCell ⟨g2, 5, none⟩ (.int .i64 0)).setCell ⟨g2, 6, none⟩ (.slice none 0 0)).cell? ⟨g2, 4, none⟩ = some (.int .i64 0) := (blk_cell hbz 4).trans rfl
      have q5 : (((((((w3.setCell ⟨g2, 0, none⟩ (.int .i64 0)).setCell ⟨g2, 1, none⟩ (.int .i64 0)).setCell ⟨g2, 2, none⟩ (.int .i64 0)).setCell ⟨g2, 3, none⟩ (.int .i64 0)).setCell ⟨g2, 4, none⟩ (.int .i64 0)).setCell ⟨g2, 5, none⟩ (.int .i64 0)).setCell ⟨g2, 6, none⟩ (.slice none 0 0)).cell? ⟨g2, 5, none⟩ = some (.int .i64 0) := (blk_cell hbz 5).trans rfl
      have q6 : (((((((w3.setCell ⟨g2, 0, none⟩ (.int .i64 0)).setCell ⟨g2, 1, none⟩ (.int .i64 0)).setCell ⟨g2, 2, none⟩ (.int .i64 0)).setCell ⟨g2, 3, none⟩ (.int .i64 0)).setCell ⟨g2, 4, none⟩ (.int .i64 0)).setCell ⟨g2, 5, none⟩ (.int .i64 0)).setCell ⟨g2, 6, none⟩ (.slice none 0 0)).cell? ⟨g2, 6, none⟩ = some (.slice none 0 0) := (blk_cell hbz 6).trans rfl
      exact bodyPost_ret (v := .tuple #[.agg #[.int .i64 0, .int .i64 0, .int .i64 0, .int .i64 0, .int .i64 0, .int .i64 0, .slice none 0 0], .int .i64 r]) (by simp [results, Try.results39, go_sem, q0, q1, q2, q3, q4, q5, q6]) rfl ⟨_, rfl, Kd.R_nil k97 97 _ _ _, hBz⟩
end Go.Proofs.Ytihfopblmjgfaaa.Q

/- ParseTile: the closure that reads a tile-part's numbers, and the function. Printed by wip/tools/genTile.py of this session. -/
namespace Go.Proofs.Ytihfopblmjgfaaa.Q
open Go.RowKit Go.Proofs.YtihfopblmjgfaaaW.PrintWords Go.Proofs.YtihfopblmjgfaaaW.PrintLast Go.Proofs.YtihfopblmjgfaaaW.PrintMore
set_option linter.unusedVariables false
set_option linter.unusedSimpArgs false

/-- A block of one number. -/
def HasInt (w : World) (g : Nat) : Prop := ∃ x, w.heap[g]? = some (.cells #[.int .i64 x] 3 (0, 0))

/-- What the closure leaves: the error (0: none), the four numbers. -/
def tileRead (k : Nat) (l : List Int) : Option (Int × Int × Int × Int × Int) :=
  (marker_ReadUint.f k l 0 2).bind fun q0 => if q0.2 = 0 then (marker_ReadUint.f k l 2 1).bind fun q1 => if q1.2 = 0 then (marker_ReadUint.f k l 3 1).bind fun q2 => if q2.2 = 0 then (marker_ReadUint.f k l 4 4).bind fun q3 => if q3.2 = 0 then some (0, q0.1, q1.1, q2.1, q3.1) else some (q3.2, 0, 0, 0, 0) else some (q2.2, 0, 0, 0, 0) else some (q1.2, 0, 0, 0, 0) else some (q0.2, 0, 0, 0, 0)

set_option maxHeartbeats 8000000 in
set_option maxRecDepth 100000 in
theorem tile_closure (k : Nat) (wb w1 : World) (A : Option Addr) (c : Nat) (l : List Int) (hC : Kd.C (Kd.int .u8) wb A l.length l) (hc : l.length ≤ c) (ra g1 g2 g3 g4 : Nat)
    (d12 : g1 ≠ g2) (d13 : g1 ≠ g3) (d14 : g1 ≠ g4) (d23 : g2 ≠ g3) (d24 : g2 ≠ g4) (d34 : g3 ≠ g4) (hr1 : g1 ≠ ra) (hr2 : g2 ≠ ra) (hr3 : g3 ≠ ra) (hr4 : g4 ≠ ra) (l0 : wb.heap.size ≤ ra) (l1 : wb.heap.size ≤ g1) (l2 : wb.heap.size ≤ g2) (l3 : wb.heap.size ≤ g3) (l4 : wb.heap.size ≤ g4)
    (hB : Below wb.heap.size wb w1) (br : w1.heap[ra]? = some (.cells #[.slice A l.length c, .int .i64 0] 102 (0, 0))) (b1 : w1.heap[g1]? = some (.cells #[.int .i64 0] 3 (0, 0))) (b2 : w1.heap[g2]? = some (.cells #[.int .i64 0] 3 (0, 0))) (b3 : w1.heap[g3]? = some (.cells #[.int .i64 0] 3 (0, 0))) (b4 : w1.heap[g4]? = some (.cells #[.int .i64 0] 3 (0, 0)))
    (e v1 v2 v3 v4 : Int) (h : tileRead k l = some (e, v1, v2, v3, v4)) :
    Calls Try.prog 48 #[.pointer (some ⟨ra, 0, none⟩), .pointer (some ⟨g1, 0, none⟩), .pointer (some ⟨g2, 0, none⟩), .pointer (some ⟨g3, 0, none⟩), .pointer (some ⟨g4, 0, none⟩)] w1 fun en w2 => Only (fun k => (k = g1 ∨ k = g2 ∨ k = g3 ∨ k = g4) ∨ k = ra) w1 w2 ∧
      ((∃ p, en = .returned (.tuple #[]) ∧ w2.heap[ra]? = some (.cells #[.slice A l.length c, .int .i64 p] 102 (0, 0)) ∧ (e = 0 ∧ p = 8 ∧ w2.heap[g1]? = some (.cells #[.int .i64 v1] 3 (0, 0)) ∧ w2.heap[g2]? = some (.cells #[.int .i64 v2] 3 (0, 0)) ∧ w2.heap[g3]? = some (.cells #[.int .i64 v3] 3 (0, 0)) ∧ w2.heap[g4]? = some (.cells #[.int .i64 v4] 3 (0, 0)))) ∨
        ∃ e', en = .panicked [{ v := .iface 99 (.agg #[.int .i64 e']), recovered := false }] ∧ (e' = e ∧ e ≠ 0 ∧ HasInt w2 g1 ∧ HasInt w2 g2 ∧ HasInt w2 g3 ∧ HasInt w2 g4)) := by
  have H := Aside0.mk h
  have R := RS.mk (S := fun k => (k = g1 ∨ k = g2 ∨ k = g3 ∨ k = g4) ∨ k = ra) br hB (Only.refl _ w1)
  have B1 := Aside0.mk b1
  have B2 := Aside0.mk b2
  have B3 := Aside0.mk b3
  have B4 := Aside0.mk b4
  clear h br hB b1 b2 b3 b4
  go_enter Try.func48, Try.ntmps48
  cases hq0 : marker_ReadUint.f k l 0 2 with
  | none => have h := H.out; simp [tileRead, hq0] at h
  | some q0 =>
  obtain ⟨x0, y0⟩ := q0
  by_cases hy0 : y0 = 0
  rotate_left
  · have h := H.out
    simp [tileRead, hq0, hy0] at h
    have h' := Aside0.mk h
    clear h
    go_wp2_with (go_at_call 49; (with_reducible refine (reader_uint.calls k ra A c l 0 2 x0 y0 _ R.br (Kd.C_below hC R.below) hc hq0).mono ?_); rintro en w' (⟨hne, _, _⟩ | ⟨_, rfl, hd⟩); exact absurd hne hy0)
    obtain ⟨rfl, -⟩ := h'.out
    exact ⟨rfl, (R.drawn hd).only, .inr ⟨_, rfl, rfl, hy0, ⟨_, drawn_blk hd B1.out⟩, ⟨_, drawn_blk hd B2.out⟩, ⟨_, drawn_blk hd B3.out⟩, ⟨_, drawn_blk hd B4.out⟩⟩⟩
  go_wp2_with (go_at_call 49; ((with_reducible refine (reader_uint.calls k ra A c l 0 2 x0 y0 _ R.br (Kd.C_below hC R.below) hc hq0).mono ?_); rintro en w2 (⟨_, rfl, hd⟩ | ⟨hne, _, _⟩); rotate_left; (exact absurd hy0 hne); have R1 := R.read (p' := 2) l0 (.inr rfl) _ hd (by unfold wrap64; omega); have n1 := Aside0.mk (RS.far B1.out hr1 hd); have n2 := Aside0.mk (RS.far B2.out hr2 hd); have n3 := Aside0.mk (RS.far B3.out hr3 hd); have n4 := Aside0.mk (RS.far B4.out hr4 hd); clear B1 B2 B3 B4 hd; have B1 := n1; have B2 := n2; have B3 := n3; have B4 := n4; clear n1 n2 n3 n4; have hcg : w2.cell? ⟨g1, 0, none⟩ = some (.int .i64 0) := (blk_cell B1.out 0).trans rfl; have hzg := blk_frozen B1.out 0))
  clear hcg hzg
  replace R1 := R1.store l1 (.inl (.inl rfl)) hr1 0 (.int .i64 x0)
  replace B1 := Aside0.mk (blk_put (cs' := #[.int .i64 x0]) B1.out 0 (.int .i64 x0) rfl)
  replace B2 := Aside0.mk (blk_far B2.out (p := ⟨g1, 0, none⟩) (Ne.symm d12) (.int .i64 x0))
  replace B3 := Aside0.mk (blk_far B3.out (p := ⟨g1, 0, none⟩) (Ne.symm d13) (.int .i64 x0))
  replace B4 := Aside0.mk (blk_far B4.out (p := ⟨g1, 0, none⟩) (Ne.symm d14) (.int .i64 x0))
  cases hq1 : marker_ReadUint.f k l 2 1 with
  | none => have h := H.out; simp [tileRead, hq0, hy0, hq1] at h
  | some q1 =>
  obtain ⟨x1, y1⟩ := q1
  by_cases hy1 : y1 = 0
  rotate_left
  · have h := H.out
    simp [tileRead, hq0, hy0, hq1, hy1] at h
    have h' := Aside0.mk h
    clear h
    go_wp2_with (go_at_call 49; (with_reducible refine (reader_uint.calls k ra A c l 2 1 x1 y1 _ R1.br (Kd.C_below hC R1.below) hc hq1).mono ?_); rintro en w' (⟨hne, _, _⟩ | ⟨_, rfl, hd⟩); exact absurd hne hy1)
    obtain ⟨rfl, -⟩ := h'.out
    exact ⟨rfl, (R1.drawn hd).only, .inr ⟨_, rfl, rfl, hy1, ⟨_, drawn_blk hd B1.out⟩, ⟨_, drawn_blk hd B2.out⟩, ⟨_, drawn_blk hd B3.out⟩, ⟨_, drawn_blk hd B4.out⟩⟩⟩
  go_wp2_with (go_at_call 49; ((with_reducible refine (reader_uint.calls k ra A c l 2 1 x1 y1 _ R1.br (Kd.C_below hC R1.below) hc hq1).mono ?_); rintro en w3 (⟨_, rfl, hd⟩ | ⟨hne, _, _⟩); rotate_left; (exact absurd hy1 hne); have R2 := R1.read (p' := 3) l0 (.inr rfl) _ hd (by unfold wrap64; omega); have n1 := Aside0.mk (RS.far B1.out hr1 hd); have n2 := Aside0.mk (RS.far B2.out hr2 hd); have n3 := Aside0.mk (RS.far B3.out hr3 hd); have n4 := Aside0.mk (RS.far B4.out hr4 hd); clear B1 B2 B3 B4 hd; have B1 := n1; have B2 := n2; have B3 := n3; have B4 := n4; clear n1 n2 n3 n4; have hcg : w3.cell? ⟨g2, 0, none⟩ = some (.int .i64 0) := (blk_cell B2.out 0).trans rfl; have hzg := blk_frozen B2.out 0))
  clear hcg hzg
  replace R2 := R2.store l2 (.inl (.inr (.inl rfl))) hr2 0 (.int .i64 x1)
  replace B1 := Aside0.mk (blk_far B1.out (p := ⟨g2, 0, none⟩) d12 (.int .i64 x1))
  replace B2 := Aside0.mk (blk_put (cs' := #[.int .i64 x1]) B2.out 0 (.int .i64 x1) rfl)
  replace B3 := Aside0.mk (blk_far B3.out (p := ⟨g2, 0, none⟩) (Ne.symm d23) (.int .i64 x1))
  replace B4 := Aside0.mk (blk_far B4.out (p := ⟨g2, 0, none⟩) (Ne.symm d24) (.int .i64 x1))
  cases hq2 : marker_ReadUint.f k l 3 1 with
  | none => have h := H.out; simp [tileRead, hq0, hy0, hq1, hy1, hq2] at h
  | some q2 =>
  obtain ⟨x2, y2⟩ := q2
  by_cases hy2 : y2 = 0
  rotate_left
  · have h := H.out
    simp [tileRead, hq0, hy0, hq1, hy1, hq2, hy2] at h
    have h' := Aside0.mk h
    clear h
    go_wp2_with (go_at_call 49; (with_reducible refine (reader_uint.calls k ra A c l 3 1 x2 y2 _ R2.br (Kd.C_below hC R2.below) hc hq2).mono ?_); rintro en w' (⟨hne, _, _⟩ | ⟨_, rfl, hd⟩); exact absurd hne hy2)
    obtain ⟨rfl, -⟩ := h'.out
    exact ⟨rfl, (R2.drawn hd).only, .inr ⟨_, rfl, rfl, hy2, ⟨_, drawn_blk hd B1.out⟩, ⟨_, drawn_blk hd B2.out⟩, ⟨_, drawn_blk hd B3.out⟩, ⟨_, drawn_blk hd B4.out⟩⟩⟩
  go_wp2_with (go_at_call 49; ((with_reducible refine (reader_uint.calls k ra A c l 3 1 x2 y2 _ R2.br (Kd.C_below hC R2.below) hc hq2).mono ?_); rintro en w4 (⟨_, rfl, hd⟩ | ⟨hne, _, _⟩); rotate_left; (exact absurd hy2 hne); have R3 := R2.read (p' := 4) l0 (.inr rfl) _ hd (by unfold wrap64; omega); have n1 := Aside0.mk (RS.far B1.out hr1 hd); have n2 := Aside0.mk (RS.far B2.out hr2 hd); have n3 := Aside0.mk (RS.far B3.out hr3 hd); have n4 := Aside0.mk (RS.far B4.out hr4 hd); clear B1 B2 B3 B4 hd; have B1 := n1; have B2 := n2; have B3 := n3; have B4 := n4; clear n1 n2 n3 n4; have hcg : w4.cell? ⟨g3, 0, none⟩ = some (.int .i64 0) := (blk_cell B3.out 0).trans rfl; have hzg := blk_frozen B3.out 0))
  clear hcg hzg
  replace R3 := R3.store l3 (.inl (.inr (.inr (.inl rfl)))) hr3 0 (.int .i64 x2)
  replace B1 := Aside0.mk (blk_far B1.out (p := ⟨g3, 0, none⟩) d13 (.int .i64 x2))
  replace B2 := Aside0.mk (blk_far B2.out (p := ⟨g3, 0, none⟩) d23 (.int .i64 x2))
  replace B3 := Aside0.mk (blk_put (cs' := #[.int .i64 x2]) B3.out 0 (.int .i64 x2) rfl)
  replace B4 := Aside0.mk (blk_far B4.out (p := ⟨g3, 0, none⟩) (Ne.symm d34) (.int .i64 x2))
  cases hq3 : marker_ReadUint.f k l 4 4 with
  | none => have h := H.out; simp [tileRead, hq0, hy0, hq1, hy1, hq2, hy2, hq3] at h
  | some q3 =>
  obtain ⟨x3, y3⟩ := q3
  by_cases hy3 : y3 = 0
  rotate_left
  · have h := H.out
    simp [tileRead, hq0, hy0, hq1, hy1, hq2, hy2, hq3, hy3] at h
    have h' := Aside0.mk h
    clear h
    go_wp2_with (go_at_call 49; (with_reducible refine (reader_uint.calls k ra A c l 4 4 x3 y3 _ R3.br (Kd.C_below hC R3.below) hc hq3).mono ?_); rintro en w' (⟨hne, _, _⟩ | ⟨_, rfl, hd⟩); exact absurd hne hy3)
    obtain ⟨rfl, -⟩ := h'.out
    exact ⟨rfl, (R3.drawn hd).only, .inr ⟨_, rfl, rfl, hy3, ⟨_, drawn_blk hd B1.out⟩, ⟨_, drawn_blk hd B2.out⟩, ⟨_, drawn_blk hd B3.out⟩, ⟨_, drawn_blk hd B4.out⟩⟩⟩
  go_wp2_with (go_at_call 49; ((with_reducible refine (reader_uint.calls k ra A c l 4 4 x3 y3 _ R3.br (Kd.C_below hC R3.below) hc hq3).mono ?_); rintro en w5 (⟨_, rfl, hd⟩ | ⟨hne, _, _⟩); rotate_left; (exact absurd hy3 hne); have R4 := R3.read (p' := 8) l0 (.inr rfl) _ hd (by unfold wrap64; omega); have n1 := Aside0.mk (RS.far B1.out hr1 hd); have n2 := Aside0.mk (RS.far B2.out hr2 hd); have n3 := Aside0.mk (RS.far B3.out hr3 hd); have n4 := Aside0.mk (RS.far B4.out hr4 hd); clear B1 B2 B3 B4 hd; have B1 := n1; have B2 := n2; have B3 := n3; have B4 := n4; clear n1 n2 n3 n4; have hcg : w5.cell? ⟨g4, 0, none⟩ = some (.int .i64 0) := (blk_cell B4.out 0).trans rfl; have hzg := blk_frozen B4.out 0))
  clear hcg hzg
  replace R4 := R4.store l4 (.inl (.inr (.inr (.inr rfl)))) hr4 0 (.int .i64 x3)
  replace B1 := Aside0.mk (blk_far B1.out (p := ⟨g4, 0, none⟩) d14 (.int .i64 x3))
  replace B2 := Aside0.mk (blk_far B2.out (p := ⟨g4, 0, none⟩) d24 (.int .i64 x3))
  replace B3 := Aside0.mk (blk_far B3.out (p := ⟨g4, 0, none⟩) d34 (.int .i64 x3))
  replace B4 := Aside0.mk (blk_put (cs' := #[.int .i64 x3]) B4.out 0 (.int .i64 x3) rfl)
  go_end0
  have h := H.out
  simp [tileRead, hq0, hq1, hq2, hq3, hy0, hy1, hy2, hy3] at h
  obtain ⟨rfl, rfl, rfl, rfl, rfl⟩ := h
  exact ⟨R4.only, .inl ⟨_, rfl, R4.br, rfl, rfl, B1.out, B2.out, B3.out, B4.out⟩⟩

theorem tileRead.mono (k : Nat) (l : List Int) : LeO (tileRead k l) (tileRead (k + 1) l) := by
  unfold tileRead
  repeat' first
    | (with_reducible exact marker_ReadUint.mono _ _ _ _)
    | (with_reducible exact LeO.refl _)
    | (with_reducible refine LeO.ite ?_ ?_)
    | (with_reducible refine LeO.bind ?_ (fun _ => ?_))
def headseg_ParseTile.f (k : Nat) (a0_0 : Int) (l0_1 : List Int) : Option (Int × Int × Int × Int × Int) :=
  (tileRead k l0_1).bind fun t => some (if a0_0 = 65456 then (if t.1 = 0 then (if (8 : Int) < (l0_1.length : Int) then (0, 0, 0, 0, 9) else (t.2.1, t.2.2.1, t.2.2.2.1, t.2.2.2.2, 0)) else (0, 0, 0, 0, t.1)) else (0, 0, 0, 0, 11))
theorem headseg_ParseTile.mono : ∀ a0 a1 k, LeO (headseg_ParseTile.f k a0 a1) (headseg_ParseTile.f (k + 1) a0 a1) := by
  intro a0 a1 k
  exact LeO.bind (tileRead.mono k a1) (fun _ => LeO.refl _)

set_option maxHeartbeats 8000000 in
set_option maxRecDepth 100000 in
theorem headseg_ParseTile.calls (k : Nat) (a0_0 : Int) (A0_1 : Option Addr) (c0_1 : Nat) (l0_1 : List Int) (r1 : Int) (r2 : Int) (r3 : Int) (r4 : Int) (r5 : Int) (w : World) (hr0_1 : Kd.C (Kd.int .u8) w A0_1 l0_1.length l0_1) (hc0_1 : l0_1.length ≤ c0_1) (h : headseg_ParseTile.f k a0_0 l0_1 = some (r1, r2, r3, r4, r5)) :
    Calls Try.prog 20 #[.agg #[.int .i64 a0_0, .slice A0_1 l0_1.length c0_1]] w fun e w' => e = .returned (.tuple #[.int .i64 r1, .int .i64 r2, .int .i64 r3, .int .i64 r4, .int .i64 r5]) ∧ Below w.heap.size w w' := by
  cases ht : tileRead k l0_1 with
  | none => simp [headseg_ParseTile.f, ht] at h
  | some t =>
  obtain ⟨e, v1, v2, v3, v4⟩ := t
  simp only [headseg_ParseTile.f, ht, Option.bind_some, Option.some.injEq] at h
  have H := Aside0.mk h
  have HT := Aside0.mk ht
  have HR := Aside0.mk hr0_1
  have HC := Aside0.mk hc0_1
  clear h ht hr0_1 hc0_1
  have hmf : ∀ (fn : Fn) (first cap : Array Value) (w : World), (Instr.makeFunc fn first cap).run Try.prog w = .ok (.func fn first cap) w := fun _ _ _ _ => rfl
  go_enter Try.func20, Try.ntmps20
  go_wp2_with (go_at_call 47; fail)
  generalize hW : ((((w.alloc (Obj.cells #[Value.int IntKind.i64 a0_0, Value.slice A0_1 l0_1.length c0_1] 26)).alloc (Obj.cells #[Value.int IntKind.i64 0] 3)).alloc (Obj.cells #[Value.int IntKind.i64 0] 3)).alloc (Obj.cells #[Value.int IntKind.i64 0] 3)).alloc (Obj.cells #[Value.int IntKind.i64 0] 3) = W0
  have hsz : W0.heap.size = w.heap.size + 5 := by rw [← hW]; simp
  have HB : Below w.heap.size w W0 := by rw [← hW]; exact below_alloc (below_alloc (below_alloc (below_alloc (below_alloc (Below.refl _ _) _) _) _) _) _
  generalize h4 : w.heap.size + 1 + 1 + 1 + 1 = g4
  generalize h3 : w.heap.size + 1 + 1 + 1 = g3
  generalize h2 : w.heap.size + 1 + 1 = g2
  generalize h1 : w.heap.size + 1 = g1
  have nb : ∀ (V : World) (g : Nat), V.heap.size = g → (V.alloc (Obj.cells #[Value.int IntKind.i64 0] 3)).heap[g]? = some (.cells #[.int .i64 0] 3 (0, 0)) := fun V g h => h ▸ blk_new V _
  have b1 : W0.heap[g1]? = some (.cells #[.int .i64 0] 3 (0, 0)) := by rw [← hW]; exact blk_alloc (blk_alloc (blk_alloc (nb _ g1 (by simp; omega)) _) _) _
  have b2 : W0.heap[g2]? = some (.cells #[.int .i64 0] 3 (0, 0)) := by rw [← hW]; exact blk_alloc (blk_alloc (nb _ g2 (by simp; omega)) _) _
  have b3 : W0.heap[g3]? = some (.cells #[.int .i64 0] 3 (0, 0)) := by rw [← hW]; exact blk_alloc (nb _ g3 (by simp; omega)) _
  have b4 : W0.heap[g4]? = some (.cells #[.int .i64 0] 3 (0, 0)) := by rw [← hW]; exact nb _ g4 (by simp; omega)
  clear hW nb
  have keep : ∀ {w1 w2 : World} {g : Nat} {x : Int}, g < W0.heap.size → w1.heap[g]? = some (.cells #[.int .i64 x] 3 (0, 0)) → Only (fun k => k = W0.heap.size + 1) w1 w2 → w2.heap[g]? = some (.cells #[.int .i64 x] 3 (0, 0)) := fun hg hb ho => ho.blk hb (by omega)
  have keepH : ∀ {w1 w2 : World} {g : Nat}, g < W0.heap.size → HasInt w1 g → Only (fun k => k = W0.heap.size + 1) w1 w2 → HasInt w2 g := fun hg ⟨x, hb⟩ ho => ⟨x, keep hg hb ho⟩
  refine (parse.calls 48 (fun _ _ => by simp [go_sem]) #[.pointer (some ⟨g1, 0, none⟩), .pointer (some ⟨g2, 0, none⟩), .pointer (some ⟨g3, 0, none⟩), .pointer (some ⟨g4, 0, none⟩)] (fun ra => #[.pointer (some ⟨ra, 0, none⟩), .pointer (some ⟨g1, 0, none⟩), .pointer (some ⟨g2, 0, none⟩), .pointer (some ⟨g3, 0, none⟩), .pointer (some ⟨g4, 0, none⟩)]) (fun _ => by simp) (fun k => k = g1 ∨ k = g2 ∨ k = g3 ∨ k = g4) a0_0 65456 A0_1 c0_1 l0_1 W0 (Kd.C_below HR.out HB) HC.out
    (fun p w2 => e = 0 ∧ p = 8 ∧ w2.heap[g1]? = some (.cells #[.int .i64 v1] 3 (0, 0)) ∧ w2.heap[g2]? = some (.cells #[.int .i64 v2] 3 (0, 0)) ∧ w2.heap[g3]? = some (.cells #[.int .i64 v3] 3 (0, 0)) ∧ w2.heap[g4]? = some (.cells #[.int .i64 v4] 3 (0, 0)))
    (fun e' w2 => e' = e ∧ e ≠ 0 ∧ HasInt w2 g1 ∧ HasInt w2 g2 ∧ HasInt w2 g3 ∧ HasInt w2 g4) (fun k hk => by omega) ?ok ?err ?cl).mono ?_
  case ok => exact fun p u1 u2 ⟨q1, q2, q3, q4, q5, q6⟩ ho => ⟨q1, q2, keep (by omega) q3 ho, keep (by omega) q4 ho, keep (by omega) q5 ho, keep (by omega) q6 ho⟩
  case err => exact fun p u1 u2 ⟨q1, q2, q3, q4, q5, q6⟩ ho => ⟨q1, q2, keepH (by omega) q3 ho, keepH (by omega) q4 ho, keepH (by omega) q5 ho, keepH (by omega) q6 ho⟩
  case cl => exact fun w1 hb1 hra hbr => tile_closure k w w1 A0_1 c0_1 l0_1 HR.out HC.out (W0.heap.size + 2) g1 g2 g3 g4 (by omega) (by omega) (by omega) (by omega) (by omega) (by omega) (by omega) (by omega) (by omega) (by omega) (by omega) (by omega) (by omega) (by omega) (by omega) (HB.trans (hb1.mono (by omega))) hbr (by rw [hb1.block g1 (by omega)]; exact b1) (by rw [hb1.block g2 (by omega)]; exact b2) (by rw [hb1.block g3 (by omega)]; exact b3) (by rw [hb1.block g4 (by omega)]; exact b4) e v1 v2 v3 v4 HT.out
  rintro en w2 ⟨y, rfl, ho, hcase⟩
  have HB2 : Below w.heap.size w w2 := HB.trans (ho.below (by omega) (by omega))
  have hcase' : (y ≠ 0 ∧ (r1, r2, r3, r4, r5) = (0, 0, 0, 0, y) ∧ HasInt w2 g1 ∧ HasInt w2 g2 ∧ HasInt w2 g3 ∧ HasInt w2 g4) ∨ (y = 0 ∧ (r1, r2, r3, r4, r5) = (v1, v2, v3, v4, 0) ∧ w2.heap[g1]? = some (.cells #[.int .i64 v1] 3 (0, 0)) ∧ w2.heap[g2]? = some (.cells #[.int .i64 v2] 3 (0, 0)) ∧ w2.heap[g3]? = some (.cells #[.int .i64 v3] 3 (0, 0)) ∧ w2.heap[g4]? = some (.cells #[.int .i64 v4] 3 (0, 0))) := by
    have h := H.out
    rcases hcase with ⟨hne, rfl, h11⟩ | ⟨heq, ⟨p, ⟨rfl, rfl, q3, q4, q5, q6⟩, hy⟩ | ⟨rfl, q2, q3, q4, q5, q6⟩⟩
    · rw [if_neg hne] at h
      exact .inl ⟨by decide, h.symm, ⟨_, h11.blk b1 (by simp)⟩, ⟨_, h11.blk b2 (by simp)⟩, ⟨_, h11.blk b3 (by simp)⟩, ⟨_, h11.blk b4 (by simp)⟩⟩
    · rw [if_pos heq, if_pos rfl] at h
      by_cases h8 : (8 : Int) < (l0_1.length : Int)
      · rw [if_pos h8] at h hy
        subst hy
        exact .inl ⟨by decide, h.symm, ⟨_, q3⟩, ⟨_, q4⟩, ⟨_, q5⟩, ⟨_, q6⟩⟩
      · rw [if_neg h8] at h hy
        exact .inr ⟨hy, h.symm, q3, q4, q5, q6⟩
    · rw [if_pos heq, if_neg q2] at h
      exact .inl ⟨q2, h.symm, q3, q4, q5, q6⟩
  clear hcase keep keepH b1 b2 b3 b4 HB ho hsz H HT HR HC
  have n12 : g1 ≠ g2 := by omega
  have n13 : g1 ≠ g3 := by omega
  have n14 : g1 ≠ g4 := by omega
  have n23 : g2 ≠ g3 := by omega
  have n24 : g2 ≠ g4 := by omega
  have n34 : g3 ≠ g4 := by omega
  rcases hcase' with ⟨hy, hr, ⟨x1, b1⟩, ⟨x2, b2⟩, ⟨x3, b3⟩, ⟨x4, b4⟩⟩ | ⟨hy, hr, b1, b2, b3, b4⟩
  · have c1 : w2.cell? ⟨g1, 0, none⟩ = some (.int .i64 x1) := (blk_cell b1 0).trans rfl
    have c2 : w2.cell? ⟨g2, 0, none⟩ = some (.int .i64 x2) := (blk_cell b2 0).trans rfl
    have c3 : w2.cell? ⟨g3, 0, none⟩ = some (.int .i64 x3) := (blk_cell b3 0).trans rfl
    have c4 : w2.cell? ⟨g4, 0, none⟩ = some (.int .i64 x4) := (blk_cell b4 0).trans rfl
    have z1 := blk_frozen b1 0
    have z2 := blk_frozen b2 0
    have z3 := blk_frozen b3 0
    have z4 := blk_frozen b4 0
    have hy' : (y != 0) = true := by simpa using hy
    go_wp2
    have q4 : ((((w2.setCell ⟨g1, 0, none⟩ (.int .i64 0)).setCell ⟨g2, 0, none⟩ (.int .i64 0)).setCell ⟨g3, 0, none⟩ (.int .i64 0)).setCell ⟨g4, 0, none⟩ (.int .i64 0)).cell? ⟨g4, 0, none⟩ = some (.int .i64 0) := (blk_cell (blk_put (blk_far (blk_far (blk_far b4 (p := ⟨g1, 0, none⟩) (Ne.symm n14) _) (p := ⟨g2, 0, none⟩) (Ne.symm n24) _) (p := ⟨g3, 0, none⟩) (Ne.symm n34) _) 0 (.int .i64 0) rfl) 0).trans rfl
    have q3 : ((((w2.setCell ⟨g1, 0, none⟩ (.int .i64 0)).setCell ⟨g2, 0, none⟩ (.int .i64 0)).setCell ⟨g3, 0, none⟩ (.int .i64 0)).setCell ⟨g4, 0, none⟩ (.int .i64 0)).cell? ⟨g3, 0, none⟩ = some (.int .i64 0) := (blk_cell (blk_far (blk_put (blk_far (blk_far b3 (p := ⟨g1, 0, none⟩) (Ne.symm n13) _) (p := ⟨g2, 0, none⟩) (Ne.symm n23) _) 0 (.int .i64 0) rfl) (p := ⟨g4, 0, none⟩) n34 _) 0).trans rfl
    have q2 : ((((w2.setCell ⟨g1, 0, none⟩ (.int .i64 0)).setCell ⟨g2, 0, none⟩ (.int .i64 0)).setCell ⟨g3, 0, none⟩ (.int .i64 0)).setCell ⟨g4, 0, none⟩ (.int .i64 0)).cell? ⟨g2, 0, none⟩ = some (.int .i64 0) := (blk_cell (blk_far (blk_far (blk_put (blk_far b2 (p := ⟨g1, 0, none⟩) (Ne.symm n12) _) 0 (.int .i64 0) rfl) (p := ⟨g3, 0, none⟩) n23 _) (p := ⟨g4, 0, none⟩) n24 _) 0).trans rfl
    have q1 : ((((w2.setCell ⟨g1, 0, none⟩ (.int .i64 0)).setCell ⟨g2, 0, none⟩ (.int .i64 0)).setCell ⟨g3, 0, none⟩ (.int .i64 0)).setCell ⟨g4, 0, none⟩ (.int .i64 0)).cell? ⟨g1, 0, none⟩ = some (.int .i64 0) := (blk_cell (blk_far (blk_far (blk_far (blk_put b1 0 (.int .i64 0) rfl) (p := ⟨g2, 0, none⟩) n12 _) (p := ⟨g3, 0, none⟩) n13 _) (p := ⟨g4, 0, none⟩) n14 _) 0).trans rfl
    have HB3 : Below w.heap.size w ((((w2.setCell ⟨g1, 0, none⟩ (.int .i64 0)).setCell ⟨g2, 0, none⟩ (.int .i64 0)).setCell ⟨g3, 0, none⟩ (.int .i64 0)).setCell ⟨g4, 0, none⟩ (.int .i64 0)) := (((HB2.setCell (p := ⟨g1, 0, none⟩) (by show _ ≤ g1; omega) _).setCell (p := ⟨g2, 0, none⟩) (by show _ ≤ g2; omega) _).setCell (p := ⟨g3, 0, none⟩) (by show _ ≤ g3; omega) _).setCell (p := ⟨g4, 0, none⟩) (by show _ ≤ g4; omega) _
    simp only [Prod.mk.injEq] at hr
    obtain ⟨rfl, rfl, rfl, rfl, rfl⟩ := hr
    exact bodyPost_ret (v := .tuple #[.int .i64 0, .int .i64 0, .int .i64 0, .int .i64 0, .int .i64 r5]) (by simp [results, Try.results20, go_sem, q1, q2, q3, q4]) rfl ⟨rfl, HB3⟩
  · have c1 : w2.cell? ⟨g1, 0, none⟩ = some (.int .i64 v1) := (blk_cell b1 0).trans rfl
    have c2 : w2.cell? ⟨g2, 0, none⟩ = some (.int .i64 v2) := (blk_cell b2 0).trans rfl
    have c3 : w2.cell? ⟨g3, 0, none⟩ = some (.int .i64 v3) := (blk_cell b3 0).trans rfl
    have c4 : w2.cell? ⟨g4, 0, none⟩ = some (.int .i64 v4) := (blk_cell b4 0).trans rfl
    have z1 := blk_frozen b1 0
    have z2 := blk_frozen b2 0
    have z3 := blk_frozen b3 0
    have z4 := blk_frozen b4 0
    subst hy
    go_wp2
    go_region
    go_wp2
    have q1 : (((((w2.setCell ⟨g1, 0, none⟩ (.int .i64 v1)).setCell ⟨g2, 0, none⟩ (.int .i64 v2)).setCell ⟨g3, 0, none⟩ (.int .i64 v3)).setCell ⟨g4, 0, none⟩ (.int .i64 v4)).drew).cell? ⟨g1, 0, none⟩ = some (.int .i64 v1) := (blk_cell (blk_drew (blk_far (blk_far (blk_far (blk_put b1 0 (.int .i64 v1) rfl) (p := ⟨g2, 0, none⟩) n12 _) (p := ⟨g3, 0, none⟩) n13 _) (p := ⟨g4, 0, none⟩) n14 _)) 0).trans rfl
    have q2 : (((((w2.setCell ⟨g1, 0, none⟩ (.int .i64 v1)).setCell ⟨g2, 0, none⟩ (.int .i64 v2)).setCell ⟨g3, 0, none⟩ (.int .i64 v3)).setCell ⟨g4, 0, none⟩ (.int .i64 v4)).drew).cell? ⟨g2, 0, none⟩ = some (.int .i64 v2) := (blk_cell (blk_drew (blk_far (blk_far (blk_put (blk_far b2 (p := ⟨g1, 0, none⟩) (Ne.symm n12) _) 0 (.int .i64 v2) rfl) (p := ⟨g3, 0, none⟩) n23 _) (p := ⟨g4, 0, none⟩) n24 _)) 0).trans rfl
    have q3 : (((((w2.setCell ⟨g1, 0, none⟩ (.int .i64 v1)).setCell ⟨g2, 0, none⟩ (.int .i64 v2)).setCell ⟨g3, 0, none⟩ (.int .i64 v3)).setCell ⟨g4, 0, none⟩ (.int .i64 v4)).drew).cell? ⟨g3, 0, none⟩ = some (.int .i64 v3) := (blk_cell (blk_drew (blk_far (blk_put (blk_far (blk_far b3 (p := ⟨g1, 0, none⟩) (Ne.symm n13) _) (p := ⟨g2, 0, none⟩) (Ne.symm n23) _) 0 (.int .i64 v3) rfl) (p := ⟨g4, 0, none⟩) n34 _)) 0).trans rfl
    have q4 : (((((w2.setCell ⟨g1, 0, none⟩ (.int .i64 v1)).setCell ⟨g2, 0, none⟩ (.int .i64 v2)).setCell ⟨g3, 0, none⟩ (.int .i64 v3)).setCell ⟨g4, 0, none⟩ (.int .i64 v4)).drew).cell? ⟨g4, 0, none⟩ = some (.int .i64 v4) := (blk_cell (blk_drew (blk_put (blk_far (blk_far (blk_far b4 (p := ⟨g1, 0, none⟩) (Ne.symm n14) _) (p := ⟨g2, 0, none⟩) (Ne.symm n24) _) (p := ⟨g3, 0, none⟩) (Ne.symm n34) _) 0 (.int .i64 v4) rfl)) 0).trans rfl
    have HB3 : Below w.heap.size w (((((w2.setCell ⟨g1, 0, none⟩ (.int .i64 v1)).setCell ⟨g2, 0, none⟩ (.int .i64 v2)).setCell ⟨g3, 0, none⟩ (.int .i64 v3)).setCell ⟨g4, 0, none⟩ (.int .i64 v4)).drew) := ((((HB2.setCell (p := ⟨g1, 0, none⟩) (by show _ ≤ g1; omega) _).setCell (p := ⟨g2, 0, none⟩) (by show _ ≤ g2; omega) _).setCell (p := ⟨g3, 0, none⟩) (by show _ ≤ g3; omega) _).setCell (p := ⟨g4, 0, none⟩) (by show _ ≤ g4; omega) _).drew
    simp only [Prod.mk.injEq] at hr
    obtain ⟨rfl, rfl, rfl, rfl, rfl⟩ := hr
    exact bodyPost_ret (v := .tuple #[.int .i64 r1, .int .i64 r2, .int .i64 r3, .int .i64 r4, .int .i64 0]) (by simp [results, Try.results20, go_sem, q1, q2, q3, q4]) rfl ⟨rfl, HB3⟩
end Go.Proofs.Ytihfopblmjgfaaa.Q

/- A row of bytes that a call has made, marked or not ('[]byte(s)' of a string): what the walk needs of it, in the shapes of the rows that are not marked. -/
namespace Go.Proofs.Ytihfopblmjgfaaa.Q
open Go.RowKit Go.Proofs.YtihfopblmjgfaaaW.PrintWords
set_option linter.unusedVariables false

def MR (w : World) (base : Nat) (ok : Nat → Prop) (v : Value) (xs : List Int) : Prop :=
  (∀ k, v.ownBlock = some k → ok k) ∧ ((v = .slice none 0 0 ∧ xs = []) ∨ ∃ (g cap : Nat) (cur : Array Value) (fr : Nat × Nat), v = .slice (some ⟨g, 0, none⟩) xs.length cap ∧ base ≤ g ∧ w.heap[g]? = some (.cells cur 5 fr) ∧ xs.length ≤ cap ∧ xs.length ≤ 9223372036854775807 ∧ ∀ (j : Nat) (p : Int), xs[j]? = some p → cur[j]? = some (Value.int .u8 p))
section
variable {w w1 W : World} {base : Nat} {ok ok' : Nat → Prop} {u v : Value} {xs : List Int}
theorem MR_mono (h : MR w base ok v xs) (hok : ∀ k, ok k → ok' k) : MR w base ok' v xs := ⟨fun k hk => hok k (h.1 k hk), h.2⟩
theorem MR_lower {base' : Nat} (h : MR w base ok v xs) (hb : base' ≤ base) : MR w base' ok v xs :=
  ⟨h.1, h.2.imp id fun ⟨g, cap, cur, fr, h1, h2, h3⟩ => ⟨g, cap, cur, fr, h1, Nat.le_trans hb h2, h3⟩⟩
theorem MR_lt (h : MR w base ok v xs) : ∀ k, v.ownBlock = some k → k < w.heap.size := by
  rcases h.2 with ⟨rfl, _⟩ | ⟨g, cap, cur, fr, rfl, _, hh, _⟩
  · intro k hk
    simp [Value.ownBlock] at hk
  · intro k hk
    have : g = k := by simpa [Value.ownBlock] using hk
    exact this ▸ blk_lt hh
theorem MR_base (h : MR w base ok v xs) : ∀ k, v.ownBlock = some k → base ≤ k := by
  rcases h.2 with ⟨rfl, _⟩ | ⟨g, cap, cur, fr, rfl, hb, _⟩
  · intro k hk
    simp [Value.ownBlock] at hk
  · intro k hk
    have : g = k := by simpa [Value.ownBlock] using hk
    exact this ▸ hb
theorem MR_step (h : MR w base ok v xs) (hs : ∀ k, ok k → k < w.heap.size → w1.heap[k]? = w.heap[k]?) : MR w1 base ok v xs := by
  obtain ⟨h0, h2⟩ := h
  refine ⟨h0, h2.imp id ?_⟩
  rintro ⟨g, cap, cur, fr, rfl, hb, hh, h3⟩
  exact ⟨g, cap, cur, fr, rfl, hb, (hs g (h0 g rfl) (blk_lt hh)).trans hh, h3⟩
theorem MR_below (h : MR w base ok v xs) (hb : Below w.heap.size w w1) : MR w1 base ok v xs := MR_step h (fun k _ hk => hb.block k hk)
theorem MR_alloc (h : MR w base ok v xs) (o : Obj) : MR (w.alloc o) base ok v xs := MR_below h (below_alloc (Below.refl _ _) o)
theorem MR_drew (h : MR w base ok v xs) : MR w.drew base ok v xs := MR_below h (below_drew (Below.refl _ _))
theorem MR_drewN (h : MR w base ok v xs) (m : Nat) : MR (w.drewN m) base ok v xs := MR_below h (pw_below_drewN (Below.refl _ _) m)
theorem MR_far (h : MR w base ok v xs) {p : Addr} (hok : ∀ k, ok k → k ≠ p.block) (u : Value) : MR (w.setCell p u) base ok v xs := MR_step h (fun k ho _ => Below.heap_setCell w p u k (hok k ho))
theorem MR_types (h : MR w base ok v xs) {g t : Nat} {cells : Array Value} (hb : w.heap[g]? = some (.cells cells t (0, 0))) (ht : ∀ q, q ∈ 5 :: ([] : List Nat) → q ≠ t) : MR w base (fun k => ok k ∧ k ≠ g) v xs := by
  obtain ⟨h0, h2⟩ := h
  refine ⟨fun k hk => ⟨h0 k hk, ?_⟩, h2⟩
  rintro rfl
  rcases h2 with ⟨rfl, _⟩ | ⟨g, cap, cur, fr, rfl, _, hh, _⟩
  · simp [Value.ownBlock] at hk
  · have : g = k := by simpa [Value.ownBlock] using hk
    subst this
    rw [hh] at hb
    injection hb with hb
    injection hb with _ hq
    exact ht 5 (by simp) hq
theorem MR_elder' (hu : MR W base ok u xs) (hbase : ∀ k, v.ownBlock = some k → W.heap.size ≤ k) (hb : Below W.heap.size W w1) : MR w1 base (fun k => ok k ∧ some k ≠ v.ownBlock) u xs := by
  have h1 := MR_below hu hb
  exact ⟨fun k hk => ⟨h1.1 k hk, fun he => by have := hbase k he.symm; have := MR_lt hu k hk; omega⟩, h1.2⟩
theorem MR_new' (h : MR w1 W.heap.size ok v xs) (hlt : ∀ k, u.ownBlock = some k → k < W.heap.size) : MR w1 W.heap.size (fun k => ok k ∧ some k ≠ u.ownBlock) v xs :=
  ⟨fun k hk => ⟨h.1 k hk, fun he => by have := hlt k he.symm; have := MR_base h k hk; omega⟩, h.2⟩
theorem MR_reads (h : MR w base ok v xs) : ∃ A c, v = .slice A xs.length c ∧ xs.length ≤ c ∧ (Kd.int .u8).C w A xs.length xs := by
  rcases h.2 with ⟨rfl, rfl⟩ | ⟨g, cap, cur, fr, rfl, _, hh, hl, hm, hc⟩
  · exact ⟨none, 0, rfl, Nat.le_refl _, rfl, by simp, fun h0 => absurd h0 (by simp)⟩
  · refine ⟨_, _, rfl, hl, rfl, hm, fun _ => ⟨_, rfl, fun j p hj => ⟨[.int .u8 p], rfl, rfl, fun i u hu => ?_⟩⟩⟩
    obtain ⟨hlt, hp⟩ := List.getElem?_eq_some_iff.1 hu
    have hi : i = 0 := by simpa using hlt
    subst hi
    have hu' : Value.int .u8 p = u := by simpa using hp
    subst hu'
    show w.cell? ((⟨g, 0, none⟩ : Addr).add (j * 1 + 0)) = some (.int .u8 p)
    rw [add_plain]
    have := hc j p hj
    simp only [World.cell?, hh, Nat.mul_one, Nat.add_zero]
    simpa using this
theorem MR_slice (h : MR w base ok v xs) : ∃ A c, v = .slice A xs.length c := by
  obtain ⟨A, c, he, _⟩ := MR_reads h
  exact ⟨A, c, he⟩
theorem MR_reads' {A : Option Addr} {n c : Nat} (h : MR w base ok (.slice A n c) xs) : n = xs.length ∧ n ≤ c ∧ (Kd.int .u8).C w A xs.length xs := by
  obtain ⟨A', c', he, hl, hr⟩ := MR_reads h
  injection he with h1 h2 h3
  subst h1
  exact ⟨h2, by omega, hr⟩
/-- What isn't marked. -/
theorem MR_of (h : Kd.R (Kd.int .u8) 5 w base ok v xs) : MR w base ok v xs := by
  obtain ⟨h0, inner, ⟨hlen, ho⟩, hr⟩ := h
  refine ⟨h0, ?_⟩
  rcases ho with ⟨rfl, hn⟩ | ⟨g, cap, cur, rfl, hb, hh, hl, hm, hs, ht⟩
  · exact .inl ⟨rfl, List.eq_nil_of_length_eq_zero hn⟩
  · refine .inr ⟨g, cap, cur, (0, 0), rfl, hb, hh, hl, by simp only [maxLen] at hm; omega, fun j p hj => ?_⟩
    obtain ⟨hjl, _⟩ := List.getElem?_eq_some_iff.1 hj
    have h1 : (inner.drop (j * 1)).take 1 = [Value.int .u8 p] := hr.2 j p hj
    have h2 : inner[j]? = some (Value.int .u8 p) := by
      have h3 := congrArg (fun l => l[0]?) h1
      simpa [List.getElem?_take] using h3
    rw [← ht, List.getElem?_take] at h2
    have h4 : j < xs.length * (Kd.int .u8).sz := by show j < xs.length * 1; omega
    rw [if_pos h4] at h2
    simpa using h2
/-- '[]byte(s)': the new row. -/
theorem MR_bytes (w : World) (s : ByteArray) (hl : s.size ≤ 9223372036854775807) : MR (Lib.bytesWorld w 5 s) w.heap.size (fun _ => True) (.slice (some ⟨w.heap.size, 0, none⟩) s.size (grownCap w s.size 0 5)) (s.data.toList.map fun b => (b.toNat : Int)) := by
  refine ⟨fun _ _ => trivial, .inr ⟨w.heap.size, grownCap w s.size 0 5, _, _, by simp, Nat.le_refl _, Lib.bytesWorld_at_new w 5 s, by simpa using grownCap_ge w s.size 0 5, by simpa using hl, fun j p hj => ?_⟩⟩
  rw [List.getElem?_map] at hj
  obtain ⟨b, hb, rfl⟩ := Option.map_eq_some_iff.1 hj
  obtain ⟨hlt, he⟩ := List.getElem?_eq_some_iff.1 hb
  have h2 : j < s.data.size := by simpa using hlt
  unfold Lib.bytesCells
  rw [Array.getElem?_append_left (by simpa using h2)]
  have h3 : s.data[j]? = some b := by simpa using hb
  simp [h3]
theorem below_bytes (w : World) (e : TypeId) (s : ByteArray) : Below w.heap.size w (Lib.bytesWorld w e s) :=
  ⟨rfl, rfl, rfl, by rw [Lib.bytesWorld_size]; omega, fun k hk => Lib.bytesWorld_at_old w e s k hk⟩
end
end Go.Proofs.Ytihfopblmjgfaaa.Q

/- Comment: the segment of a comment, its payload a marked row ('[]byte(s)'). Printed by wip/tools/genComment.py of this session. -/
namespace Go.Proofs.Ytihfopblmjgfaaa.Q
open Go.RowKit Go.Proofs.YtihfopblmjgfaaaW.PrintWords Go.Proofs.YtihfopblmjgfaaaW.PrintLast Go.Proofs.YtihfopblmjgfaaaW.PrintMore
set_option linter.unusedVariables false
set_option linter.unusedSimpArgs false
def strBytes (s : ByteArray) : List Int := s.data.toList.map fun b => (b.toNat : Int)

def headseg_Comment.f (a0 : ByteArray) : Option (Int × List Int × Int) := if a0.size ≤ 9223372036854775807 then some (if (a0.size : Int) > 65533 then (0, [], 5) else (65444, strBytes a0, 0)) else none
set_option maxHeartbeats 8000000 in
set_option maxRecDepth 100000 in
theorem headseg_Comment.calls (a0 : ByteArray) (r1 : Int) (r2 : List Int) (r3 : Int) (w : World) (h : headseg_Comment.f a0 = some (r1, r2, r3)) :
    Calls Try.prog 13 #[.string a0] w fun e w' => ∃ v1_ : Value, e = .returned (.tuple #[.agg #[.int .i64 r1, v1_], .int .i64 r3]) ∧ MR w' w.heap.size (fun _ => True) v1_ r2 ∧ Below w.heap.size w w' := by
  have h0 : a0.size ≤ 9223372036854775807 := by
    unfold headseg_Comment.f at h
    split at h
    · assumption
    · cases h
  simp only [headseg_Comment.f, if_pos h0, Option.some.injEq] at h
  have H := Aside0.mk h
  have H0 := Aside0.mk h0
  clear h h0
  generalize hW : w.alloc (.cells #[.int .i64 0, .slice none 0 0] 26) = W
  have hWs : W.heap.size = w.heap.size + 1 := by rw [← hW]; simp
  have hcv := Lib.run_convert_string_bytes (P := Try.prog) W 9 24 5 a0 Try.underlying9 Try.underlying24 Try.underlying5
  have hM := Aside0.mk (MR_bytes W a0 H0.out)
  have hbl : (Lib.bytesWorld W 5 a0).heap[w.heap.size]? = some (.cells #[.int .i64 0, .slice none 0 0] 26 (0, 0)) := by
    rw [Lib.bytesWorld_at_old W 5 a0 _ (by omega), ← hW]
    exact blk_new w _
  have hBw := Aside0.mk (below_bytes W 5 a0)
  generalize grownCap W a0.size 0 5 = cp at hcv hM
  generalize hV : Lib.bytesWorld W 5 a0 = V at hcv hM hbl hBw
  have hc0 : V.cell? ⟨w.heap.size, 0, none⟩ = some (.int .i64 0) := (blk_cell hbl 0).trans rfl
  have hc1 : V.cell? ⟨w.heap.size, 1, none⟩ = some (.slice none 0 0) := (blk_cell hbl 1).trans rfl
  have hz0 := blk_frozen hbl 0
  have hz1 := blk_frozen hbl 1
  have hbW : W.heap[w.heap.size]? = some (.cells #[.int .i64 0, .slice none 0 0] 26 (0, 0)) := by rw [← hW]; exact blk_new w _
  have hd0 : W.cell? ⟨w.heap.size, 0, none⟩ = some (.int .i64 0) := (blk_cell hbW 0).trans rfl
  have hd1 : W.cell? ⟨w.heap.size, 1, none⟩ = some (.slice none 0 0) := (blk_cell hbW 1).trans rfl
  have hy0 := blk_frozen hbW 0
  have hy1 := blk_frozen hbW 1
  go_enter Try.func13, Try.ntmps13
  by_cases hs : (a0.size : Int) > 65533
  · have hs' : decide (65533 < (a0.size : Int)) = true := decide_eq_true hs
    go_wp2
    have h := H.out
    rw [if_pos hs] at h
    simp only [Prod.mk.injEq] at h
    obtain ⟨rfl, rfl, rfl⟩ := h
    have hb2 : ((W.setCell ⟨w.heap.size, 0, none⟩ (.int .i64 0)).setCell ⟨w.heap.size, 1, none⟩ (.slice none 0 0)).heap[w.heap.size]? = some (.cells #[.int .i64 0, .slice none 0 0] 26 (0, 0)) := blk_put (blk_put hbW 0 (.int .i64 0) rfl) 1 (.slice none 0 0) rfl
    have q0 : ((W.setCell ⟨w.heap.size, 0, none⟩ (.int .i64 0)).setCell ⟨w.heap.size, 1, none⟩ (.slice none 0 0)).cell? ⟨w.heap.size, 0, none⟩ = some (.int .i64 0) := (blk_cell hb2 0).trans rfl
    have q1 : ((W.setCell ⟨w.heap.size, 0, none⟩ (.int .i64 0)).setCell ⟨w.heap.size, 1, none⟩ (.slice none 0 0)).cell? ⟨w.heap.size, 1, none⟩ = some (.slice none 0 0) := (blk_cell hb2 1).trans rfl
    have hBl : Below w.heap.size w ((W.setCell ⟨w.heap.size, 0, none⟩ (.int .i64 0)).setCell ⟨w.heap.size, 1, none⟩ (.slice none 0 0)) := by rw [← hW]; exact ((below_alloc (Below.refl _ _) _).setCell (p := ⟨w.heap.size, 0, none⟩) (Nat.le_refl _) _).setCell (p := ⟨w.heap.size, 1, none⟩) (Nat.le_refl _) _
    exact bodyPost_ret (v := .tuple #[.agg #[.int .i64 0, .slice none 0 0], .int .i64 5]) (by simp [results, Try.results13, go_sem, q0, q1]) rfl ⟨_, rfl, ⟨fun k hk => trivial, .inl ⟨rfl, rfl⟩⟩, hBl⟩
  · have hs' : decide (65533 < (a0.size : Int)) = false := decide_eq_false hs
    go_wp2
    have h := H.out
    rw [if_neg (by omega)] at h
    simp only [Prod.mk.injEq] at h
    obtain ⟨rfl, rfl, rfl⟩ := h
    have hb2 : ((V.setCell ⟨w.heap.size, 0, none⟩ (.int .i64 65444)).setCell ⟨w.heap.size, 1, none⟩ (.slice (some ⟨w.heap.size + 1, 0, none⟩) a0.size cp)).heap[w.heap.size]? = some (.cells #[.int .i64 65444, .slice (some ⟨w.heap.size + 1, 0, none⟩) a0.size cp] 26 (0, 0)) := blk_put (blk_put hbl 0 (.int .i64 65444) rfl) 1 (.slice (some ⟨w.heap.size + 1, 0, none⟩) a0.size cp) rfl
    have q0 : ((V.setCell ⟨w.heap.size, 0, none⟩ (.int .i64 65444)).setCell ⟨w.heap.size, 1, none⟩ (.slice (some ⟨w.heap.size + 1, 0, none⟩) a0.size cp)).cell? ⟨w.heap.size, 0, none⟩ = some (.int .i64 65444) := (blk_cell hb2 0).trans rfl
    have q1 : ((V.setCell ⟨w.heap.size, 0, none⟩ (.int .i64 65444)).setCell ⟨w.heap.size, 1, none⟩ (.slice (some ⟨w.heap.size + 1, 0, none⟩) a0.size cp)).cell? ⟨w.heap.size, 1, none⟩ = some (.slice (some ⟨w.heap.size + 1, 0, none⟩) a0.size cp) := (blk_cell hb2 1).trans rfl
    have hBV : Below w.heap.size w V := (show Below w.heap.size w W by rw [← hW]; exact below_alloc (Below.refl _ _) _).trans (hBw.out.mono (by omega))
    have hBl : Below w.heap.size w ((V.setCell ⟨w.heap.size, 0, none⟩ (.int .i64 65444)).setCell ⟨w.heap.size, 1, none⟩ (.slice (some ⟨w.heap.size + 1, 0, none⟩) a0.size cp)) := (hBV.setCell (p := ⟨w.heap.size, 0, none⟩) (Nat.le_refl _) _).setCell (p := ⟨w.heap.size, 1, none⟩) (Nat.le_refl _) _
    have hm := MR_far (p := ⟨w.heap.size, 1, none⟩) (MR_far (p := ⟨w.heap.size, 0, none⟩) (MR_types hM.out hbl (by decide)) (fun _ hk => hk.2) (.int .i64 65444)) (fun _ hk => hk.2) (.slice (some ⟨w.heap.size + 1, 0, none⟩) a0.size cp)
    rw [hWs] at hm
    exact bodyPost_ret (v := .tuple #[.agg #[.int .i64 65444, .slice (some ⟨w.heap.size + 1, 0, none⟩) a0.size cp], .int .i64 0]) (by simp [results, Try.results13, go_sem, q0, q1]) rfl ⟨_, rfl, MR_lower (MR_mono hm (fun _ _ => trivial)) (by omega), hBl⟩

def waveletref29_Comment.f (a0 : ByteArray) : Option (Int × List Int × Int) := if a0.size ≤ 9223372036854775807 then some (if (a0.size : Int) > 65533 then (0, [], 5) else (65444, strBytes a0, 0)) else none
set_option maxHeartbeats 8000000 in
set_option maxRecDepth 100000 in
theorem waveletref29_Comment.calls (a0 : ByteArray) (r1 : Int) (r2 : List Int) (r3 : Int) (w : World) (h : waveletref29_Comment.f a0 = some (r1, r2, r3)) :
    Calls Try.prog 14 #[.string a0] w fun e w' => ∃ v1_ : Value, e = .returned (.tuple #[.agg #[.int .i64 r1, v1_], .int .i64 r3]) ∧ MR w' w.heap.size (fun _ => True) v1_ r2 ∧ Below w.heap.size w w' := by
  have h0 : a0.size ≤ 9223372036854775807 := by
    unfold waveletref29_Comment.f at h
    split at h
    · assumption
    · cases h
  simp only [waveletref29_Comment.f, if_pos h0, Option.some.injEq] at h
  have H := Aside0.mk h
  have H0 := Aside0.mk h0
  clear h h0
  generalize hW : w.alloc (.cells #[.int .i64 0, .slice none 0 0] 26) = W
  have hWs : W.heap.size = w.heap.size + 1 := by rw [← hW]; simp
  have hcv := Lib.run_convert_string_bytes (P := Try.prog) W 9 24 5 a0 Try.underlying9 Try.underlying24 Try.underlying5
  have hM := Aside0.mk (MR_bytes W a0 H0.out)
  have hbl : (Lib.bytesWorld W 5 a0).heap[w.heap.size]? = some (.cells #[.int .i64 0, .slice none 0 0] 26 (0, 0)) := by
    rw [Lib.bytesWorld_at_old W 5 a0 _ (by omega), ← hW]
    exact blk_new w _
  have hBw := Aside0.mk (below_bytes W 5 a0)
  generalize grownCap W a0.size 0 5 = cp at hcv hM
  generalize hV : Lib.bytesWorld W 5 a0 = V at hcv hM hbl hBw
  have hc0 : V.cell? ⟨w.heap.size, 0, none⟩ = some (.int .i64 0) := (blk_cell hbl 0).trans rfl
  have hc1 : V.cell? ⟨w.heap.size, 1, none⟩ = some (.slice none 0 0) := (blk_cell hbl 1).trans rfl
  have hz0 := blk_frozen hbl 0
  have hz1 := blk_frozen hbl 1
  have hbW : W.heap[w.heap.size]? = some (.cells #[.int .i64 0, .slice none 0 0] 26 (0, 0)) := by rw [← hW]; exact blk_new w _
  have hd0 : W.cell? ⟨w.heap.size, 0, none⟩ = some (.int .i64 0) := (blk_cell hbW 0).trans rfl
  have hd1 : W.cell? ⟨w.heap.size, 1, none⟩ = some (.slice none 0 0) := (blk_cell hbW 1).trans rfl
  have hy0 := blk_frozen hbW 0
  have hy1 := blk_frozen hbW 1
  go_enter Try.func14, Try.ntmps14
  by_cases hs : (a0.size : Int) > 65533
  · have hs' : decide (65533 < (a0.size : Int)) = true := decide_eq_true hs
    go_wp2
    have h := H.out
    rw [if_pos hs] at h
    simp only [Prod.mk.injEq] at h
    obtain ⟨rfl, rfl, rfl⟩ := h
    have hb2 : ((W.setCell ⟨w.heap.size, 0, none⟩ (.int .i64 0)).setCell ⟨w.heap.size, 1, none⟩ (.slice none 0 0)).heap[w.heap.size]? = some (.cells #[.int .i64 0, .slice none 0 0] 26 (0, 0)) := blk_put (blk_put hbW 0 (.int .i64 0) rfl) 1 (.slice none 0 0) rfl
    have q0 : ((W.setCell ⟨w.heap.size, 0, none⟩ (.int .i64 0)).setCell ⟨w.heap.size, 1, none⟩ (.slice none 0 0)).cell? ⟨w.heap.size, 0, none⟩ = some (.int .i64 0) := (blk_cell hb2 0).trans rfl
    have q1 : ((W.setCell ⟨w.heap.size, 0, none⟩ (.int .i64 0)).setCell ⟨w.heap.size, 1, none⟩ (.slice none 0 0)).cell? ⟨w.heap.size, 1, none⟩ = some (.slice none 0 0) := (blk_cell hb2 1).trans rfl
    have hBl : Below w.heap.size w ((W.setCell ⟨w.heap.size, 0, none⟩ (.int .i64 0)).setCell ⟨w.heap.size, 1, none⟩ (.slice none 0 0)) := by rw [← hW]; exact ((below_alloc (Below.refl _ _) _).setCell (p := ⟨w.heap.size, 0, none⟩) (Nat.le_refl _) _).setCell (p := ⟨w.heap.size, 1, none⟩) (Nat.le_refl _) _
    exact bodyPost_ret (v := .tuple #[.agg #[.int .i64 0, .slice none 0 0], .int .i64 5]) (by simp [results, Try.results14, go_sem, q0, q1]) rfl ⟨_, rfl, ⟨fun k hk => trivial, .inl ⟨rfl, rfl⟩⟩, hBl⟩
  · have hs' : decide (65533 < (a0.size : Int)) = false := decide_eq_false hs
    go_wp2
    have h := H.out
    rw [if_neg (by omega)] at h
    simp only [Prod.mk.injEq] at h
    obtain ⟨rfl, rfl, rfl⟩ := h
    have hb2 : ((V.setCell ⟨w.heap.size, 0, none⟩ (.int .i64 65444)).setCell ⟨w.heap.size, 1, none⟩ (.slice (some ⟨w.heap.size + 1, 0, none⟩) a0.size cp)).heap[w.heap.size]? = some (.cells #[.int .i64 65444, .slice (some ⟨w.heap.size + 1, 0, none⟩) a0.size cp] 26 (0, 0)) := blk_put (blk_put hbl 0 (.int .i64 65444) rfl) 1 (.slice (some ⟨w.heap.size + 1, 0, none⟩) a0.size cp) rfl
    have q0 : ((V.setCell ⟨w.heap.size, 0, none⟩ (.int .i64 65444)).setCell ⟨w.heap.size, 1, none⟩ (.slice (some ⟨w.heap.size + 1, 0, none⟩) a0.size cp)).cell? ⟨w.heap.size, 0, none⟩ = some (.int .i64 65444) := (blk_cell hb2 0).trans rfl
    have q1 : ((V.setCell ⟨w.heap.size, 0, none⟩ (.int .i64 65444)).setCell ⟨w.heap.size, 1, none⟩ (.slice (some ⟨w.heap.size + 1, 0, none⟩) a0.size cp)).cell? ⟨w.heap.size, 1, none⟩ = some (.slice (some ⟨w.heap.size + 1, 0, none⟩) a0.size cp) := (blk_cell hb2 1).trans rfl
    have hBV : Below w.heap.size w V := (show Below w.heap.size w W by rw [← hW]; exact below_alloc (Below.refl _ _) _).trans (hBw.out.mono (by omega))
    have hBl : Below w.heap.size w ((V.setCell ⟨w.heap.size, 0, none⟩ (.int .i64 65444)).setCell ⟨w.heap.size, 1, none⟩ (.slice (some ⟨w.heap.size + 1, 0, none⟩) a0.size cp)) := (hBV.setCell (p := ⟨w.heap.size, 0, none⟩) (Nat.le_refl _) _).setCell (p := ⟨w.heap.size, 1, none⟩) (Nat.le_refl _) _
    have hm := MR_far (p := ⟨w.heap.size, 1, none⟩) (MR_far (p := ⟨w.heap.size, 0, none⟩) (MR_types hM.out hbl (by decide)) (fun _ hk => hk.2) (.int .i64 65444)) (fun _ hk => hk.2) (.slice (some ⟨w.heap.size + 1, 0, none⟩) a0.size cp)
    rw [hWs] at hm
    exact bodyPost_ret (v := .tuple #[.agg #[.int .i64 65444, .slice (some ⟨w.heap.size + 1, 0, none⟩) a0.size cp], .int .i64 0]) (by simp [results, Try.results14, go_sem, q0, q1]) rfl ⟨_, rfl, MR_lower (MR_mono hm (fun _ _ => trivial)) (by omega), hBl⟩
end Go.Proofs.Ytihfopblmjgfaaa.Q

/- Printed walk, shortened (wip/tools/unmerge.py). -/
namespace Go.Proofs.Ytihfopblmjgfaaa.Q
open Go.RowKit Go.Proofs.YtihfopblmjgfaaaW.PrintWords Go.Proofs.YtihfopblmjgfaaaW.PrintLast Go.Proofs.YtihfopblmjgfaaaW.PrintMore
attribute [local go_sem] max2_int min2_int max_two min_two max_three min_three max_four min_four   -- for this text's walks alone
set_option linter.unusedVariables false
set_option linter.unusedSimpArgs false

/-! ### waveletlaw29_long: function 11 -/
def waveletlaw29_long.f (a0_0 : Int) (l0_1 : List Int) : Option (Bool) := some (decide ((l0_1.length : Int) > 70000))
set_option maxHeartbeats 8000000 in
set_option maxRecDepth 100000 in
theorem waveletlaw29_long.calls (a0_0 : Int) (A0_1 : Option Addr) (c0_1 : Nat) (l0_1 : List Int) (r : Bool) (w : World) (hr0_1 : Kd.C (Kd.int .u8) w A0_1 l0_1.length l0_1) (hc0_1 : l0_1.length ≤ c0_1) (h : waveletlaw29_long.f a0_0 l0_1 = some r) :
    Calls Try.prog 11 #[.agg #[.int .i64 a0_0, .slice A0_1 l0_1.length c0_1]] w fun e w' => e = .returned (.bool r) ∧ Below w.heap.size w w' := by
  have hu26 := Try.underlying26
  have HR0_1 := Aside0.mk hr0_1
  have HC0_1 := Aside0.mk hc0_1
  clear hr0_1 hc0_1
  have HB := Aside0.mk (Below.refl w.heap.size w)
  have H : (some (decide ((l0_1.length : Int) > 70000))) = some r := h
  clear h
  obtain rfl := Option.some.inj H
  go_enter Try.func11, Try.ntmps11
  go_wp2_with (first | ((with_reducible refine gate_dst (N := 1) rfl ?_); refine box_event ?hg (N := 1) ?hd (cs := #[.int .i64 a0_0, .slice A0_1 l0_1.length c0_1]) (t := 26) ?hr ?_; (case hd => rfl); (case hg => rfl); (case hr => first | (go_simp; done) | (go_simp; rfl)); intro gb101 hg w2 hbox hb; have BK101 := Aside0.mk (hbox); have GW101 := Aside0.mk ((by rw [hg]; exact (below_size (upB HB.out)) : w.heap.size ≤ gb101)); have GE101 := Aside0.mk ((by rw [hg]; exact (below_size (upB HB.out)) : w.heap.size ≤ gb101)); replace HB := Aside0.mk (below_step (upB HB.out) hb); clear hb hbox hg; have hcz3_0 : w2.cell? ⟨gb101, 0, none⟩ = some (.int .i64 a0_0) := bc BK101 0; have hcz3_1 : w2.cell? ⟨gb101, 1, none⟩ = some (.slice A0_1 l0_1.length c0_1) := bc BK101 1; have hfz3_0 := blk_frozen BK101.out 0; have hfz3_1 := blk_frozen BK101.out 1))
  go_ret
  exact ⟨by first | rfl | (simp [errW_none, errW_some] <;> rfl) | (simp [*, errW_none, errW_some] <;> rfl), by repeat (first | (with_reducible first | exact HB.out | apply below_alloc | apply pw_below_drewN | apply below_drew1 | refine below_set ?_ GE101.out) | exact HB.out)⟩

end Go.Proofs.Ytihfopblmjgfaaa.Q

/- Printed walk, shortened (wip/tools/unmerge.py). -/
namespace Go.Proofs.Ytihfopblmjgfaaa.Q
open Go.RowKit Go.Proofs.YtihfopblmjgfaaaW.PrintWords Go.Proofs.YtihfopblmjgfaaaW.PrintLast Go.Proofs.YtihfopblmjgfaaaW.PrintMore
attribute [local go_sem] max2_int min2_int max_two min_two max_three min_three max_four min_four   -- for this text's walks alone
set_option linter.unusedVariables false
set_option linter.unusedSimpArgs false

/-! ### headseg_put: function 44 -/
def headseg_put.l0 : Nat → List Int → Int → Int → Option (List Int)
  | 0, _, _, _ => none
  | k + 1, x0, x2, x7 => if x7 ≥ 0 then (if 0 ≤ (IntKind.u64.wrap (wrap64 (8 * x7))) then (if x0.length < 140737488355328 then (headseg_put.l0 k (x0 ++ [(shr .i64 x2 (IntKind.u64.wrap (wrap64 (8 * x7)))) % 256]) x2 (wrap64 (x7 - 1))) else (none)) else (none)) else (some x0)
def headseg_put.f (k : Nat) (l0 : List Int) (a1 : Int) (a2 : Int) : Option (List Int) := headseg_put.l0 k l0 a2 (wrap64 (a1 - 1))
theorem headseg_put.mono_l : ∀ k, (∀ y0 y1 y2, LeO (headseg_put.l0 k y0 y1 y2) (headseg_put.l0 (k + 1) y0 y1 y2))
  | 0 => fun _ _ _ r h => by simp [headseg_put.l0] at h
  | k + 1 => by
    have ih0 := headseg_put.mono_l k
    · intro y0 y1 y2
      unfold headseg_put.l0
      repeat' first
      | (with_reducible exact ih0 _ _ _)
      | (with_reducible exact LeO.refl _)
      | (with_reducible exact LeO.none _)
      | (with_reducible refine LeO.ite ?_ ?_)
      | (with_reducible refine LeO.bind ?_ (fun _ => ?_))
      | exact ih0 _ _ _
      | exact LeO.none _
      | refine LeO.ite ?_ ?_
      | refine LeO.bind ?_ (fun _ => ?_)
theorem headseg_put.mono : ∀ a0 a1 a2 k, LeO (headseg_put.f k a0 a1 a2) (headseg_put.f (k + 1) a0 a1 a2) := by
  intro a0 a1 a2 k
  have ih0 := headseg_put.mono_l k
  unfold headseg_put.f
  repeat' first
      | (with_reducible exact ih0 _ _ _)
      | (with_reducible exact LeO.refl _)
      | (with_reducible exact LeO.none _)
      | (with_reducible refine LeO.ite ?_ ?_)
      | (with_reducible refine LeO.bind ?_ (fun _ => ?_))
      | exact ih0 _ _ _
      | exact LeO.none _
      | refine LeO.ite ?_ ?_
      | refine LeO.bind ?_ (fun _ => ?_)
set_option maxHeartbeats 8000000 in
set_option maxRecDepth 100000 in
theorem headseg_put.calls (k : Nat) (P0_ : Nat → Prop) (u9000_ : Value) (l0 : List Int) (a1 : Int) (a2 : Int) (r : List Int) (w0 w : World) (hB : Below w0.heap.size w0 w) (ho0 : Kd.R (Kd.int .u8) 5 w w0.heap.size P0_ u9000_ l0) (h : headseg_put.f k l0 a1 a2 = some r) :
    Calls Try.prog 44 #[u9000_, .int .i64 a1, .int .i64 a2] w fun e w' => ∃ v0_ : Value, e = .returned (v0_) ∧ Kd.R (Kd.int .u8) 5 w' w0.heap.size (fun k_ => (P0_ k_ ∨ w.heap.size ≤ k_)) v0_ r ∧ Below w0.heap.size w0 w' ∧ Kept w w' (fun k_ => P0_ k_) := by
  have HO0 := Aside0.mk (show Kd.R (Kd.int .u8) 5 w w0.heap.size (fun k_ => (P0_ k_ ∨ w.heap.size ≤ k_)) u9000_ l0 from Kd.R_mono ho0 (fun k_ hk => (.inl hk)))
  have HK := Aside0.mk (Kept.refl w (fun k_ => P0_ k_))
  have HW0 := Aside0.mk hB.size
  have HB := Aside0.mk hB
  clear hB
  have H : (headseg_put.l0 k l0 a2 (wrap64 (a1 - 1))) = some r := h
  clear h
  have H' := Aside0.mk H
  clear H
  go_enter Try.func44, Try.ntmps44
  go_wp2
  go_loopg [0, 7] k (fun kq v0 v7 w' => ∃ (x0_1 : List Int) (x7_1 : Int), v7 = .int .i64 x7_1 ∧ Aside0 (headseg_put.l0 kq x0_1 a2 x7_1 = some r) ∧ Aside0 (kq ≤ k) ∧ Aside0 (Kd.R (Kd.int .u8) 5 w' w0.heap.size (fun k_ => (P0_ k_ ∨ w.heap.size ≤ k_)) v0 x0_1) ∧ Aside0 (Kept w w' (fun k_ => P0_ k_)) ∧ Aside0 (Below w0.heap.size w0 w'))
  case atStart => exact ⟨(l0), (wrap64 (a1 - 1)), (by first | rfl | (simp; done) | (simp [*]; done)), H', ⟨Nat.le_refl _⟩, ⟨by (with_reducible repeat (first | apply Kd.R_alloc | apply Kd.R_drewN | apply Kd.R_drew)); exact HO0.out⟩, ⟨by repeat (first | (with_reducible first | exact HK.out | apply Kept.alloc | apply Kept.drewN | apply Kept.drew) | exact HK.out)⟩, ⟨by repeat (first | (with_reducible first | exact HB.out | apply below_alloc | apply pw_below_drewN | apply below_drew1) | exact HB.out)⟩⟩
  case round =>
    clear H'
    try clear p2
    obtain ⟨x0_1, x7_1, rfl, HA, HK1, HO_0, HK, HB⟩ := hrel
    cases gk with
    | zero => exact absurd HA.out (by simp [headseg_put.l0])
    | succ k1 =>
      have H := HA.out
      clear HA
      simp only [headseg_put.l0] at H
      by_cases c4 : x7_1 ≥ 0
      · rw [if_pos c4] at H
        have c4b0 : decide (0 ≤ x7_1) = true := decide_eq_true c4
        clear c4
        obtain ⟨ji5, hji5⟩ : ∃ j_ : Int, (IntKind.u64.wrap (wrap64 (8 * x7_1))) = j_ := ⟨_, rfl⟩
        replace H : (if 0 ≤ (ji5) then (if x0_1.length < 140737488355328 then (headseg_put.l0 k1 (x0_1 ++ [(shr .i64 a2 (ji5)) % 256]) a2 (wrap64 (x7_1 - 1))) else (none)) else (none)) = some r := by first | (rw [hji5] at H; exact H) | (simp only [hji5] at H ⊢; exact H)
        by_cases c6 : 0 ≤ (ji5)
        · rw [if_pos c6] at H
          have c6b0 := eq_true c6
          have c6b1 : decide (0 ≤ (ji5)) = true := decide_eq_true c6
          clear c6
          obtain ⟨ji7, hji7⟩ : ∃ j_ : Int, (shr .i64 a2 (ji5)) = j_ := ⟨_, rfl⟩
          replace H : (if x0_1.length < 140737488355328 then (headseg_put.l0 k1 (x0_1 ++ [(ji7) % 256]) a2 (wrap64 (x7_1 - 1))) else (none)) = some r := by first | (rw [hji7] at H; exact H) | (simp only [hji7] at H ⊢; exact H)
          have hji7_ : (a2 / 2 ^ min (ji5).toNat 64) = ji7 := hji7
          have hji7z : (ji5) ≤ 64 → (a2 / 2 ^ (ji5).toNat) = ji7 := shr_small hji7
          by_cases c8 : x0_1.length < 140737488355328
          · rw [if_pos c8] at H
            have LMc8 := Aside0.mk c8
            clear c8
            obtain ⟨y103, hy103⟩ : ∃ y_ : List Int, y_ = (x0_1 ++ [(ji7) % 256]) := ⟨_, rfl⟩
            replace H : (headseg_put.l0 k1 y103 a2 (wrap64 (x7_1 - 1))) = some r := by first | (rw [hy103]; with_reducible exact H) | (have H2_ := (Option.bind_some _ _).symm.trans H; rw [hy103]; with_reducible exact H2_) | (have H2_ := (Option.bind_some _ _).symm.trans H; with_reducible exact H2_) | with_reducible exact H | (rw [hy103]; exact H) | exact H
            have Ny103 := Aside0.mk hy103
            clear hy103
            have H' := Aside0.mk H
            clear H
            go_wp2_with (first | ((with_reducible refine gate_builtin (b := .append) (xs := #[.tmp 14, .tmp 21]) rfl ?_); at_builtin; refine Kd.R_append (Kd.int .u8) (w0 := w0) w0.heap.size rfl (.tmp 14) (.tmp 21) 24 5 (.int .u8 0) 1 rfl Try.underlying24 info5 rfl (by decide) (by omega) u0 x0_1 ((ji7) % 256) [.int .u8 ((ji7) % 256)] (fun k_ => (P0_ k_ ∨ w.heap.size ≤ k_)) (fun _ => False) rfl rfl ?aP (fun _ hk => hk.elim) ?aF ?aO ?aB ?aS ?aL ?_; (case aP => exact rfl); (case aB => exact (upB HB.out)); (case aF => exact (fun k_ hk => (.inr (Nat.le_trans (by first | exact HK.out.1 | exact (show Kept w _ (fun k_ => P0_ k_) from by repeat (first | (with_reducible first | exact HK.out | apply Kept.alloc | apply Kept.drewN | apply Kept.drew) | exact HK.out)).1) hk)))); (case aO => exact (upR HO_0.out)); (case aS => exact (below_size (upB HB.out))); (case aL => have := LMc8.out; omega); intro v104 w9 ho hb hg hat; rw [← Ny103.out] at ho; have n0_ := Aside0.mk (hb); have n1_ := Aside0.mk (Kept.of_grown (S := (fun k_ => P0_ k_)) hg (by repeat (first | (with_reducible first | exact HK.out | apply Kept.alloc | apply Kept.drewN | apply Kept.drew) | exact HK.out)) (fun k_ e_ => (HO_0.out.1 k_ e_))); have n2_ := Aside0.mk (ho); clear HB HK HO_0; have HB := n0_; have HK := n1_; have HO105 := n2_; clear n0_ n1_ n2_; clear ho hb hg hat))
            go_roundg k1
            case measure => have := HK1.out; omega
            case rel => exact ⟨(y103), (wrap64 (x7_1 - 1)), (by first | rfl | (simp; done) | (simp [*]; done)), H', ⟨by have := HK1.out; omega⟩, ⟨by (with_reducible repeat (first | apply Kd.R_alloc | apply Kd.R_drewN | apply Kd.R_drew)); exact HO105.out⟩, ⟨by repeat (first | (with_reducible first | exact HK.out | apply Kept.alloc | apply Kept.drewN | apply Kept.drew) | exact HK.out)⟩, ⟨by repeat (first | (with_reducible first | exact HB.out | apply below_alloc | apply pw_below_drewN | apply below_drew1) | exact HB.out)⟩⟩
          · rw [if_neg c8] at H
            exact absurd H (by simp)
        · rw [if_neg c6] at H
          exact absurd H (by simp)
      · rw [if_neg c4] at H
        have c4b0 : decide (0 ≤ x7_1) = false := decide_eq_false c4
        clear c4
        obtain rfl := Option.some.inj H
        go_wp2
        go_ret
        exact ⟨_, by first | rfl | (simp [errW_none, errW_some] <;> rfl) | (simp [*, errW_none, errW_some] <;> rfl), by (with_reducible repeat (first | apply Kd.R_alloc | apply Kd.R_drewN | apply Kd.R_drew)); exact HO_0.out, by repeat (first | (with_reducible first | exact HB.out | apply below_alloc | apply pw_below_drewN | apply below_drew1) | exact HB.out), by repeat (first | (with_reducible first | exact HK.out | apply Kept.alloc | apply Kept.drewN | apply Kept.drew) | exact HK.out)⟩

end Go.Proofs.Ytihfopblmjgfaaa.Q
