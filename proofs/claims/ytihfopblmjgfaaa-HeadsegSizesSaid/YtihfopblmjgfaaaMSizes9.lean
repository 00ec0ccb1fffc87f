/- Texts of this session (words and printed walks, merged by wip/tools/merge.py) for the statement of the claim. -/
import Derived.Test.YtihfopblmjgfaaaMSizes1
import Derived.Test.YtihfopblmjgfaaaMSizes4
import Derived.Deep.MidRow
/- ParseSize: the closure that reads a header's numbers, and the function. Printed by wip/tools/genSize.py of this session. -/
namespace Go.Proofs.Ytihfopblmjgfaaa.Q
open Go.RowKit Go.Proofs.YtihfopblmjgfaaaW.PrintWords Go.Proofs.YtihfopblmjgfaaaW.PrintLast Go.Proofs.YtihfopblmjgfaaaW.PrintMore
set_option linter.unusedVariables false
set_option linter.unusedSimpArgs false

/-- A number is read, or the reading fails. -/
def rdn {ρ : Type} (k : Nat) (l : List Int) (p n : Int) (bad : Int → ρ) (f : Int → Option ρ) : Option ρ := (marker_ReadUint.f k l p n).bind fun q => if q.2 = 0 then f q.1 else some (bad q.2)
theorem rdn_mono {ρ : Type} (k : Nat) (l : List Int) (p n : Int) (bad : Int → ρ) {f g : Int → Option ρ} (h : ∀ x, LeO (f x) (g x)) : LeO (rdn k l p n bad f) (rdn (k + 1) l p n bad g) :=
  LeO.bind (marker_ReadUint.mono _ _ _ _) (fun q => LeO.ite (h q.1) (LeO.refl _))
/-- The components: the error, the list, the place behind. -/
def sizeLoop : Nat → List Int → Int → Int → List S97 → Option (Int × List S97 × Int)
  | 0, _, _, _, _ => none
  | k + 1, l, p, n, xs => if n > 0 then (if xs.length < 4398046511104 then rdn k l p 1 (fun e => (e, [], 0)) (fun d => rdn k l (wrap64 (p + 1)) 1 (fun e => (e, [], 0)) (fun dx => rdn k l (wrap64 (wrap64 (p + 1) + 1)) 1 (fun e => (e, [], 0)) (fun dy =>
      sizeLoop k l (wrap64 (wrap64 (wrap64 (p + 1) + 1) + 1)) (wrap64 (n - 1)) (xs ++ [⟨wrap64 (Go.bits .and .i64 d 127 + 1), decide (d ≥ 128), dx, dy⟩])))) else none) else some (0, xs, p)
theorem sizeLoop.mono : ∀ k l p n xs, LeO (sizeLoop k l p n xs) (sizeLoop (k + 1) l p n xs)
  | 0, _, _, _, _ => LeO.none _
  | k + 1, l, p, n, xs => by
    rw [sizeLoop.eq_2, sizeLoop.eq_2]
    exact LeO.ite (LeO.ite (rdn_mono _ _ _ _ _ fun _ => rdn_mono _ _ _ _ _ fun _ => rdn_mono _ _ _ _ _ fun _ => sizeLoop.mono _ _ _ _ _) (LeO.refl _)) (LeO.refl _)
def badSize (e : Int) : Int × Int × Int × Int × Int × Int × Int × List S97 × Int := (e, 0, 0, 0, 0, 0, 0, [], 0)
def sizeRead (k : Nat) (l : List Int) : Option (Int × Int × Int × Int × Int × Int × Int × List S97 × Int) :=
  rdn k l 0 2 badSize fun x0 => rdn k l 2 2 badSize fun y0 => rdn k l 4 2 badSize fun x1 => rdn k l 6 2 badSize fun y1 => rdn k l 8 2 badSize fun tw => rdn k l 10 2 badSize fun th => rdn k l 12 1 badSize fun n =>
    (sizeLoop k l 13 n []).bind fun t => some (if t.1 = 0 then (0, x0, y0, x1, y1, tw, th, t.2.1, t.2.2) else badSize t.1)
theorem sizeRead.mono (k : Nat) (l : List Int) : LeO (sizeRead k l) (sizeRead (k + 1) l) :=
  rdn_mono _ _ _ _ _ fun _ => rdn_mono _ _ _ _ _ fun _ => rdn_mono _ _ _ _ _ fun _ => rdn_mono _ _ _ _ _ fun _ => rdn_mono _ _ _ _ _ fun _ => rdn_mono _ _ _ _ _ fun _ => rdn_mono _ _ _ _ _ fun _ => LeO.bind (sizeLoop.mono _ _ _ _ _) fun _ => LeO.refl _

set_option maxHeartbeats 8000000 in
set_option maxRecDepth 100000 in
theorem size_closure (k : Nat) (wb w1 : World) (A : Option Addr) (c : Nat) (l : List Int) (hC : Kd.C (Kd.int .u8) wb A l.length l) (hc : l.length ≤ c) (ra g : Nat) (hr1 : g ≠ ra) (l0 : wb.heap.size ≤ ra) (l1 : wb.heap.size ≤ g) (hlr : ra < w1.heap.size) (hlg : g < w1.heap.size)
    (hB : Below wb.heap.size wb w1) (br : w1.heap[ra]? = some (.cells #[.slice A l.length c, .int .i64 0] 102 (0, 0))) (b1 : w1.heap[g]? = some (.cells #[.int .i64 0, .int .i64 0, .int .i64 0, .int .i64 0, .int .i64 0, .int .i64 0, .slice none 0 0] 67 (0, 0)))
    (e x0 y0 x1 y1 tw th : Int) (xs : List S97) (pe : Int) (h : sizeRead k l = some (e, x0, y0, x1, y1, tw, th, xs, pe)) :
    Calls Try.prog 62 #[.pointer (some ⟨ra, 0, none⟩), .pointer (some ⟨g, 0, none⟩)] w1 fun en w2 => Only (fun k => k = g ∨ k = ra) w1 w2 ∧
      ((∃ p, en = .returned (.tuple #[]) ∧ w2.heap[ra]? = some (.cells #[.slice A l.length c, .int .i64 p] 102 (0, 0)) ∧ (e = 0 ∧ p = pe ∧ ∃ v, w2.heap[g]? = some (.cells #[.int .i64 x0, .int .i64 y0, .int .i64 x1, .int .i64 y1, .int .i64 tw, .int .i64 th, v] 67 (0, 0)) ∧ Kd.R k97 97 w2 wb.heap.size (fun k => w1.heap.size ≤ k) v xs)) ∨
        ∃ e', en = .panicked [{ v := .iface 99 (.agg #[.int .i64 e']), recovered := false }] ∧ (e' = e ∧ e ≠ 0)) := by
  have H := Aside0.mk h
  have R := RS.mk (S := fun k => k = g ∨ k = ra) br hB (Only.refl _ w1)
  have B1 := Aside0.mk b1
  clear h br hB b1
  go_enter Try.func62, Try.ntmps62
  cases hq0 : marker_ReadUint.f k l 0 2 with
  | none => have h := H.out; simp [sizeRead, rdn, hq0] at h
  | some q0 =>
  obtain ⟨x_0, y_0⟩ := q0
  by_cases hy0 : y_0 = 0
  rotate_left
  · have h := H.out
    simp [sizeRead, rdn, badSize, hq0, hy0] at h
    have h' := Aside0.mk h
    clear h
    go_wp2_with (go_at_call 49; (with_reducible refine (reader_uint.calls k ra A c l 0 2 x_0 y_0 _ R.br (Kd.C_below hC R.below) hc hq0).mono ?_); rintro en w' (⟨hne, _, _⟩ | ⟨_, rfl, hd⟩); exact absurd hne hy0)
    obtain ⟨rfl, -⟩ := h'.out
    exact ⟨rfl, (R.drawn hd).only, .inr ⟨_, rfl, rfl, hy0⟩⟩
  go_wp2_with (go_at_call 49; (with_reducible refine (reader_uint.calls k ra A c l 0 2 x_0 y_0 _ R.br (Kd.C_below hC R.below) hc hq0).mono ?_); rintro en w2 (⟨_, rfl, hd⟩ | ⟨hne, _, _⟩); rotate_left; (exact absurd hy0 hne); have R1 := R.read (p' := 2) l0 (.inr rfl) _ hd (by unfold wrap64; omega); have n1 := Aside0.mk (RS.far B1.out hr1 hd); clear B1 hd; have B1 := n1; clear n1)
  cases hq1 : marker_ReadUint.f k l 2 2 with
  | none => have h := H.out; simp [sizeRead, rdn, hq0, hy0, hq1] at h
  | some q1 =>
  obtain ⟨x_1, y_1⟩ := q1
  by_cases hy1 : y_1 = 0
  rotate_left
  · have h := H.out
    simp [sizeRead, rdn, badSize, hq0, hy0, hq1, hy1] at h
    have h' := Aside0.mk h
    clear h
    go_wp2_with (go_at_call 49; (with_reducible refine (reader_uint.calls k ra A c l 2 2 x_1 y_1 _ R1.br (Kd.C_below hC R1.below) hc hq1).mono ?_); rintro en w' (⟨hne, _, _⟩ | ⟨_, rfl, hd⟩); exact absurd hne hy1)
    obtain ⟨rfl, -⟩ := h'.out
    exact ⟨rfl, (R1.drawn hd).only, .inr ⟨_, rfl, rfl, hy1⟩⟩
  go_wp2_with (go_at_call 49; (with_reducible refine (reader_uint.calls k ra A c l 2 2 x_1 y_1 _ R1.br (Kd.C_below hC R1.below) hc hq1).mono ?_); rintro en w3 (⟨_, rfl, hd⟩ | ⟨hne, _, _⟩); rotate_left; (exact absurd hy1 hne); have R2 := R1.read (p' := 4) l0 (.inr rfl) _ hd (by unfold wrap64; omega); have n1 := Aside0.mk (RS.far B1.out hr1 hd); clear B1 hd; have B1 := n1; clear n1; have hcg0 : w3.cell? ⟨g, 0, none⟩ = some (.int .i64 0) := (blk_cell B1.out 0).trans rfl; have hzg0 := blk_frozen B1.out 0; have hcg1 : w3.cell? ⟨g, 1, none⟩ = some (.int .i64 0) := (blk_cell B1.out 1).trans rfl; have hzg1 := blk_frozen B1.out 1)
  clear hcg0 hzg0 hcg1 hzg1
  replace R2 := (R2.store l1 (.inl rfl) hr1 0 (.int .i64 x_0)).store l1 (.inl rfl) hr1 1 (.int .i64 x_1)
  replace B1 := Aside0.mk (blk_put (cs' := #[.int .i64 x_0, .int .i64 x_1, .int .i64 0, .int .i64 0, .int .i64 0, .int .i64 0, .slice none 0 0]) (blk_put (cs' := #[.int .i64 x_0, .int .i64 0, .int .i64 0, .int .i64 0, .int .i64 0, .int .i64 0, .slice none 0 0]) B1.out 0 (.int .i64 x_0) rfl) 1 (.int .i64 x_1) rfl)
  cases hq2 : marker_ReadUint.f k l 4 2 with
  | none => have h := H.out; simp [sizeRead, rdn, hq0, hy0, hq1, hy1, hq2] at h
  | some q2 =>
  obtain ⟨x_2, y_2⟩ := q2
  by_cases hy2 : y_2 = 0
  rotate_left
  · have h := H.out
    simp [sizeRead, rdn, badSize, hq0, hy0, hq1, hy1, hq2, hy2] at h
    have h' := Aside0.mk h
    clear h
    go_wp2_with (go_at_call 49; (with_reducible refine (reader_uint.calls k ra A c l 4 2 x_2 y_2 _ R2.br (Kd.C_below hC R2.below) hc hq2).mono ?_); rintro en w' (⟨hne, _, _⟩ | ⟨_, rfl, hd⟩); exact absurd hne hy2)
    obtain ⟨rfl, -⟩ := h'.out
    exact ⟨rfl, (R2.drawn hd).only, .inr ⟨_, rfl, rfl, hy2⟩⟩
  go_wp2_with (go_at_call 49; (with_reducible refine (reader_uint.calls k ra A c l 4 2 x_2 y_2 _ R2.br (Kd.C_below hC R2.below) hc hq2).mono ?_); rintro en w4 (⟨_, rfl, hd⟩ | ⟨hne, _, _⟩); rotate_left; (exact absurd hy2 hne); have R3 := R2.read (p' := 6) l0 (.inr rfl) _ hd (by unfold wrap64; omega); have n1 := Aside0.mk (RS.far B1.out hr1 hd); clear B1 hd; have B1 := n1; clear n1)
  cases hq3 : marker_ReadUint.f k l 6 2 with
  | none => have h := H.out; simp [sizeRead, rdn, hq0, hy0, hq1, hy1, hq2, hy2, hq3] at h
  | some q3 =>
  obtain ⟨x_3, y_3⟩ := q3
  by_cases hy3 : y_3 = 0
  rotate_left
  · have h := H.out
    simp [sizeRead, rdn, badSize, hq0, hy0, hq1, hy1, hq2, hy2, hq3, hy3] at h
    have h' := Aside0.mk h
    clear h
    go_wp2_with (go_at_call 49; (with_reducible refine (reader_uint.calls k ra A c l 6 2 x_3 y_3 _ R3.br (Kd.C_below hC R3.below) hc hq3).mono ?_); rintro en w' (⟨hne, _, _⟩ | ⟨_, rfl, hd⟩); exact absurd hne hy3)
    obtain ⟨rfl, -⟩ := h'.out
    exact ⟨rfl, (R3.drawn hd).only, .inr ⟨_, rfl, rfl, hy3⟩⟩
  go_wp2_with (go_at_call 49; (with_reducible refine (reader_uint.calls k ra A c l 6 2 x_3 y_3 _ R3.br (Kd.C_below hC R3.below) hc hq3).mono ?_); rintro en w5 (⟨_, rfl, hd⟩ | ⟨hne, _, _⟩); rotate_left; (exact absurd hy3 hne); have R4 := R3.read (p' := 8) l0 (.inr rfl) _ hd (by unfold wrap64; omega); have n1 := Aside0.mk (RS.far B1.out hr1 hd); clear B1 hd; have B1 := n1; clear n1; have hcg2 : w5.cell? ⟨g, 2, none⟩ = some (.int .i64 0) := (blk_cell B1.out 2).trans rfl; have hzg2 := blk_frozen B1.out 2; have hcg3 : w5.cell? ⟨g, 3, none⟩ = some (.int .i64 0) := (blk_cell B1.out 3).trans rfl; have hzg3 := blk_frozen B1.out 3)
  clear hcg2 hzg2 hcg3 hzg3
  replace R4 := (R4.store l1 (.inl rfl) hr1 2 (.int .i64 x_2)).store l1 (.inl rfl) hr1 3 (.int .i64 x_3)
  replace B1 := Aside0.mk (blk_put (cs' := #[.int .i64 x_0, .int .i64 x_1, .int .i64 x_2, .int .i64 x_3, .int .i64 0, .int .i64 0, .slice none 0 0]) (blk_put (cs' := #[.int .i64 x_0, .int .i64 x_1, .int .i64 x_2, .int .i64 0, .int .i64 0, .int .i64 0, .slice none 0 0]) B1.out 2 (.int .i64 x_2) rfl) 3 (.int .i64 x_3) rfl)
  cases hq4 : marker_ReadUint.f k l 8 2 with
  | none => have h := H.out; simp [sizeRead, rdn, hq0, hy0, hq1, hy1, hq2, hy2, hq3, hy3, hq4] at h
  | some q4 =>
  obtain ⟨x_4, y_4⟩ := q4
  by_cases hy4 : y_4 = 0
  rotate_left
  · have h := H.out
    simp [sizeRead, rdn, badSize, hq0, hy0, hq1, hy1, hq2, hy2, hq3, hy3, hq4, hy4] at h
    have h' := Aside0.mk h
    clear h
    go_wp2_with (go_at_call 49; (with_reducible refine (reader_uint.calls k ra A c l 8 2 x_4 y_4 _ R4.br (Kd.C_below hC R4.below) hc hq4).mono ?_); rintro en w' (⟨hne, _, _⟩ | ⟨_, rfl, hd⟩); exact absurd hne hy4)
    obtain ⟨rfl, -⟩ := h'.out
    exact ⟨rfl, (R4.drawn hd).only, .inr ⟨_, rfl, rfl, hy4⟩⟩
  go_wp2_with (go_at_call 49; (with_reducible refine (reader_uint.calls k ra A c l 8 2 x_4 y_4 _ R4.br (Kd.C_below hC R4.below) hc hq4).mono ?_); rintro en w6 (⟨_, rfl, hd⟩ | ⟨hne, _, _⟩); rotate_left; (exact absurd hy4 hne); have R5 := R4.read (p' := 10) l0 (.inr rfl) _ hd (by unfold wrap64; omega); have n1 := Aside0.mk (RS.far B1.out hr1 hd); clear B1 hd; have B1 := n1; clear n1)
  cases hq5 : marker_ReadUint.f k l 10 2 with
  | none => have h := H.out; simp [sizeRead, rdn, hq0, hy0, hq1, hy1, hq2, hy2, hq3, hy3, hq4, hy4, hq5] at h
  | some q5 =>
  obtain ⟨x_5, y_5⟩ := q5
  by_cases hy5 : y_5 = 0
  rotate_left
  · have h := H.out
    simp [sizeRead, rdn, badSize, hq0, hy0, hq1, hy1, hq2, hy2, hq3, hy3, hq4, hy4, hq5, hy5] at h
    have h' := Aside0.mk h
    clear h
    go_wp2_with (go_at_call 49; (with_reducible refine (reader_uint.calls k ra A c l 10 2 x_5 y_5 _ R5.br (Kd.C_below hC R5.below) hc hq5).mono ?_); rintro en w' (⟨hne, _, _⟩ | ⟨_, rfl, hd⟩); exact absurd hne hy5)
    obtain ⟨rfl, -⟩ := h'.out
    exact ⟨rfl, (R5.drawn hd).only, .inr ⟨_, rfl, rfl, hy5⟩⟩
  go_wp2_with (go_at_call 49; (with_reducible refine (reader_uint.calls k ra A c l 10 2 x_5 y_5 _ R5.br (Kd.C_below hC R5.below) hc hq5).mono ?_); rintro en w7 (⟨_, rfl, hd⟩ | ⟨hne, _, _⟩); rotate_left; (exact absurd hy5 hne); have R6 := R5.read (p' := 12) l0 (.inr rfl) _ hd (by unfold wrap64; omega); have n1 := Aside0.mk (RS.far B1.out hr1 hd); clear B1 hd; have B1 := n1; clear n1; have hcg4 : w7.cell? ⟨g, 4, none⟩ = some (.int .i64 0) := (blk_cell B1.out 4).trans rfl; have hzg4 := blk_frozen B1.out 4; have hcg5 : w7.cell? ⟨g, 5, none⟩ = some (.int .i64 0) := (blk_cell B1.out 5).trans rfl; have hzg5 := blk_frozen B1.out 5)
  clear hcg4 hzg4 hcg5 hzg5
  replace R6 := (R6.store l1 (.inl rfl) hr1 4 (.int .i64 x_4)).store l1 (.inl rfl) hr1 5 (.int .i64 x_5)
  replace B1 := Aside0.mk (blk_put (cs' := #[.int .i64 x_0, .int .i64 x_1, .int .i64 x_2, .int .i64 x_3, .int .i64 x_4, .int .i64 x_5, .slice none 0 0]) (blk_put (cs' := #[.int .i64 x_0, .int .i64 x_1, .int .i64 x_2, .int .i64 x_3, .int .i64 x_4, .int .i64 0, .slice none 0 0]) B1.out 4 (.int .i64 x_4) rfl) 5 (.int .i64 x_5) rfl)
  cases hq6 : marker_ReadUint.f k l 12 1 with
  | none => have h := H.out; simp [sizeRead, rdn, hq0, hy0, hq1, hy1, hq2, hy2, hq3, hy3, hq4, hy4, hq5, hy5, hq6] at h
  | some q6 =>
  obtain ⟨x_6, y_6⟩ := q6
  by_cases hy6 : y_6 = 0
  rotate_left
  · have h := H.out
    simp [sizeRead, rdn, badSize, hq0, hy0, hq1, hy1, hq2, hy2, hq3, hy3, hq4, hy4, hq5, hy5, hq6, hy6] at h
    have h' := Aside0.mk h
    clear h
    go_wp2_with (go_at_call 49; (with_reducible refine (reader_uint.calls k ra A c l 12 1 x_6 y_6 _ R6.br (Kd.C_below hC R6.below) hc hq6).mono ?_); rintro en w' (⟨hne, _, _⟩ | ⟨_, rfl, hd⟩); exact absurd hne hy6)
    obtain ⟨rfl, -⟩ := h'.out
    exact ⟨rfl, (R6.drawn hd).only, .inr ⟨_, rfl, rfl, hy6⟩⟩
  go_wp2_with (go_at_call 49; (with_reducible refine (reader_uint.calls k ra A c l 12 1 x_6 y_6 _ R6.br (Kd.C_below hC R6.below) hc hq6).mono ?_); rintro en w8 (⟨_, rfl, hd⟩ | ⟨hne, _, _⟩); rotate_left; (exact absurd hy6 hne); have R7 := R6.read (p' := 13) l0 (.inr rfl) _ hd (by unfold wrap64; omega); have n1 := Aside0.mk (RS.far B1.out hr1 hd); clear B1 hd; have B1 := n1; clear n1)
  cases hsl : sizeLoop k l 13 x_6 [] with
  | none => have h := H.out; simp [sizeRead, rdn, hq0, hy0, hq1, hy1, hq2, hy2, hq3, hy3, hq4, hy4, hq5, hy5, hq6, hy6, hsl] at h
  | some t =>
  have HT := Aside0.mk (show (if t.1 = 0 then (0, x_0, x_1, x_2, x_3, x_4, x_5, t.2.1, t.2.2) else badSize t.1) = (e, x0, y0, x1, y1, tw, th, xs, pe) by have h := H.out; simpa [sizeRead, rdn, hq0, hy0, hq1, hy1, hq2, hy2, hq3, hy3, hq4, hy4, hq5, hy5, hq6, hy6, hsl] using h)
  have HSL := Aside0.mk hsl
  clear hsl H hq0 hq1 hq2 hq3 hq4 hq5 hq6 hy0 hy1 hy2 hy3 hy4 hy5 hy6
  clear R R1 R2 R3 R4 R5 R6
  have hsz8 : w1.heap.size ≤ w8.heap.size := R7.only.size
  have HR0 := Aside0.mk (Kd.R_nil k97 97 w8 wb.heap.size (fun k => w1.heap.size ≤ k))
  go_loopg [3] k (fun kq v3 w' => ∃ (n p : Int) (ys : List S97) (v : Value), v3 = .int .i64 n ∧ Aside0 (sizeLoop kq l p n ys = some t) ∧ RS (fun k => k = g ∨ k = ra) wb w1 ra A l.length c p w' ∧ Aside0 (w'.heap[g]? = some (.cells #[.int .i64 x_0, .int .i64 x_1, .int .i64 x_2, .int .i64 x_3, .int .i64 x_4, .int .i64 x_5, v] 67 (0, 0))) ∧ Aside0 (Kd.R k97 97 w' wb.heap.size (fun k => w1.heap.size ≤ k) v ys))
  case atStart => exact ⟨x_6, 13, [], _, rfl, HSL, R7, B1, HR0⟩
  case round =>
    clear HSL R7 B1 HR0 hsz8
    obtain ⟨n, p, ys, v, rfl, HS, R, B1, HR⟩ := hrel
    cases gk with
    | zero => exact absurd HS.out (by simp [sizeLoop])
    | succ kk =>
    have hs := HS.out
    clear HS
    rw [sizeLoop.eq_2] at hs
    by_cases hn : n > 0
    rotate_left
    · rw [if_neg hn] at hs
      have hn0 : decide (0 < n) = false := decide_eq_false hn
      obtain rfl : (0, ys, p) = t := Option.some.inj hs
      have ht := HT.out
      simp only [if_true, Prod.mk.injEq] at ht
      obtain ⟨rfl, rfl, rfl, rfl, rfl, rfl, rfl, rfl, rfl⟩ := ht
      clear hs HT
      go_wp2
      go_end0
      first | exact ⟨R.only, .inl ⟨_, rfl, R.br, rfl, rfl, v, B1.out, HR.out⟩⟩ | exact ⟨R.only, rfl, _, R.br, rfl, v, B1.out, HR.out⟩
    rw [if_pos hn] at hs
    have hn1 : decide (0 < n) = true := decide_eq_true hn
    by_cases hlim : ys.length < 4398046511104
    rotate_left
    · rw [if_neg hlim] at hs; exact absurd hs (by simp)
    rw [if_pos hlim] at hs
    (try simp only [rdn] at hs)
    cases hq7 : marker_ReadUint.f kk l (p) 1 with
    | none => rw [hq7] at hs; exact absurd hs (by simp)
    | some q7 =>
    obtain ⟨x_7, y_7⟩ := q7
    rw [hq7] at hs
    simp only [Option.bind_some] at hs
    by_cases hy7 : y_7 = 0
    rotate_left
    · rw [if_neg hy7] at hs
      obtain rfl : (y_7, [], 0) = t := Option.some.inj hs
      have ht := HT.out
      rw [if_neg hy7] at ht
      simp only [badSize, Prod.mk.injEq] at ht
      have he := Aside0.mk ht.1
      clear hs HT ht
      go_wp2_with (go_at_call 49; (with_reducible refine (reader_uint.calls kk ra A c l (p) 1 x_7 y_7 _ R.br (Kd.C_below hC R.below) hc hq7).mono ?_); rintro en w' (⟨hne, _, _⟩ | ⟨_, rfl, hd⟩); exact absurd hne hy7)
      obtain rfl := he.out
      exact ⟨rfl, (R.drawn hd).only, .inr ⟨_, rfl, rfl, hy7⟩⟩
    rw [if_pos hy7] at hs
    have hs' := Aside0.mk hs
    clear hs
    go_wp2_with (first | (go_at_call 49; (with_reducible refine (reader_uint.calls kk ra A c l (p) 1 x_7 y_7 _ R.br (Kd.C_below hC R.below) hc hq7).mono ?_); rintro en w9 (⟨_, rfl, hd⟩ | ⟨hne, _, _⟩); rotate_left; (exact absurd hy7 hne); have S1 := R.read (p' := wrap64 (p + 1)) l0 (.inr rfl) _ hd rfl; have n1 := Aside0.mk (RS.far B1.out hr1 hd); have n2 := Aside0.mk (RS.readR HR.out (fun k hk => by omega) hd); clear B1 HR hd; have B1 := n1; have HR := n2; clear n1 n2))
    have hs := hs'.out
    clear hs'
    have S1a := S1.alloc (Obj.cells #[.int .i64 (wrap64 (Go.bits .and .i64 x_7 127 + 1)), .bool (decide (128 ≤ x_7)), .int .i64 0, .int .i64 0] 97)
    have hS1 := S1.only.size
    have hgl : g < w9.heap.size := blk_lt B1.out
    have hrl : ra < w9.heap.size := blk_lt S1.br
    have BC := Aside0.mk (blk_new w9 (Obj.cells #[.int .i64 (wrap64 (Go.bits .and .i64 x_7 127 + 1)), .bool (decide (128 ≤ x_7)), .int .i64 0, .int .i64 0] 97))
    have n1 := Aside0.mk (blk_alloc B1.out (Obj.cells #[.int .i64 (wrap64 (Go.bits .and .i64 x_7 127 + 1)), .bool (decide (128 ≤ x_7)), .int .i64 0, .int .i64 0] 97))
    have n2 := Aside0.mk (Kd.R_alloc (Kd.R_mono (ok' := fun k => w1.heap.size ≤ k ∧ k < w9.heap.size) (Kd.R_bound HR.out) (fun k hk => ⟨hk.1, hk.2.2.1⟩)) (Obj.cells #[.int .i64 (wrap64 (Go.bits .and .i64 x_7 127 + 1)), .bool (decide (128 ≤ x_7)), .int .i64 0, .int .i64 0] 97))
    clear B1 HR
    have B1 := n1
    have HR := n2
    clear n1 n2
    have hgc : w9.heap.size ≠ ra := by omega
    have hgg : w9.heap.size ≠ g := by omega
    (try simp only [rdn] at hs)
    cases hq8 : marker_ReadUint.f kk l (wrap64 (p + 1)) 1 with
    | none => rw [hq8] at hs; exact absurd hs (by simp)
    | some q8 =>
    obtain ⟨x_8, y_8⟩ := q8
    rw [hq8] at hs
    simp only [Option.bind_some] at hs
    by_cases hy8 : y_8 = 0
    rotate_left
    · rw [if_neg hy8] at hs
      obtain rfl : (y_8, [], 0) = t := Option.some.inj hs
      have ht := HT.out
      rw [if_neg hy8] at ht
      simp only [badSize, Prod.mk.injEq] at ht
      have he := Aside0.mk ht.1
      clear hs HT ht
      go_wp2_with (go_at_call 49; (with_reducible refine (reader_uint.calls kk ra A c l (wrap64 (p + 1)) 1 x_8 y_8 _ S1a.br (Kd.C_below hC S1a.below) hc hq8).mono ?_); rintro en w' (⟨hne, _, _⟩ | ⟨_, rfl, hd⟩); exact absurd hne hy8)
      obtain rfl := he.out
      exact ⟨rfl, (S1a.drawn hd).only, .inr ⟨_, rfl, rfl, hy8⟩⟩
    rw [if_pos hy8] at hs
    have hs' := Aside0.mk hs
    clear hs
    go_wp2_with (first | (go_at_call 49; (with_reducible refine (reader_uint.calls kk ra A c l (wrap64 (p + 1)) 1 x_8 y_8 _ S1a.br (Kd.C_below hC S1a.below) hc hq8).mono ?_); rintro en w10 (⟨_, rfl, hd⟩ | ⟨hne, _, _⟩); rotate_left; (exact absurd hy8 hne); have S2 := S1a.read (p' := wrap64 (wrap64 (p + 1) + 1)) l0 (.inr rfl) _ hd rfl; have n1 := Aside0.mk (RS.far B1.out hr1 hd); have n2 := Aside0.mk (RS.readR HR.out (fun k hk => by omega) hd); have n3 := Aside0.mk (RS.far BC.out hgc hd); clear B1 HR BC hd; have B1 := n1; have HR := n2; have BC := n3; clear n1 n2 n3))
    have hs := hs'.out
    clear hs'
    (try simp only [rdn] at hs)
    cases hq9 : marker_ReadUint.f kk l (wrap64 (wrap64 (p + 1) + 1)) 1 with
    | none => rw [hq9] at hs; exact absurd hs (by simp)
    | some q9 =>
    obtain ⟨x_9, y_9⟩ := q9
    rw [hq9] at hs
    simp only [Option.bind_some] at hs
    by_cases hy9 : y_9 = 0
    rotate_left
    · rw [if_neg hy9] at hs
      obtain rfl : (y_9, [], 0) = t := Option.some.inj hs
      have ht := HT.out
      rw [if_neg hy9] at ht
      simp only [badSize, Prod.mk.injEq] at ht
      have he := Aside0.mk ht.1
      clear hs HT ht
      go_wp2_with (go_at_call 49; (with_reducible refine (reader_uint.calls kk ra A c l (wrap64 (wrap64 (p + 1) + 1)) 1 x_9 y_9 _ S2.br (Kd.C_below hC S2.below) hc hq9).mono ?_); rintro en w' (⟨hne, _, _⟩ | ⟨_, rfl, hd⟩); exact absurd hne hy9)
      obtain rfl := he.out
      exact ⟨rfl, (S2.drawn hd).only, .inr ⟨_, rfl, rfl, hy9⟩⟩
    rw [if_pos hy9] at hs
    have hs' := Aside0.mk hs
    clear hs
    go_wp2_with (first | (go_at_call 49; (with_reducible refine (reader_uint.calls kk ra A c l (wrap64 (wrap64 (p + 1) + 1)) 1 x_9 y_9 _ S2.br (Kd.C_below hC S2.below) hc hq9).mono ?_); rintro en w11 (⟨_, rfl, hd⟩ | ⟨hne, _, _⟩); rotate_left; (exact absurd hy9 hne); have S3 := S2.read (p' := wrap64 (wrap64 (wrap64 (p + 1) + 1) + 1)) l0 (.inr rfl) _ hd rfl; have n1 := Aside0.mk (RS.far B1.out hr1 hd); have n2 := Aside0.mk (RS.readR HR.out (fun k hk => by omega) hd); have n3 := Aside0.mk (RS.far BC.out hgc hd); clear B1 HR BC hd; have B1 := n1; have HR := n2; have BC := n3; clear n1 n2 n3; have hc2 : w11.cell? ⟨w9.heap.size, 2, none⟩ = some (.int .i64 0) := (blk_cell BC.out 2).trans rfl; have hc3 : w11.cell? ⟨w9.heap.size, 3, none⟩ = some (.int .i64 0) := (blk_cell BC.out 3).trans rfl; have hz2 := blk_frozen BC.out 2; have hz3 := blk_frozen BC.out 3; have hc0 : w11.cell? ⟨w9.heap.size, 0, none⟩ = some (.int .i64 (wrap64 (Go.bits .and .i64 x_7 127 + 1))) := (blk_cell BC.out 0).trans rfl; have hc1 : w11.cell? ⟨w9.heap.size, 1, none⟩ = some (.bool (decide (128 ≤ x_7))) := (blk_cell BC.out 1).trans rfl; have hg6 : w11.cell? ⟨g, 6, none⟩ = some v := (blk_cell B1.out 6).trans rfl) | ((with_reducible refine gate_builtin (b := .append) (xs := #[.tmp 49, .tmp 51]) rfl ?_); (try (refine gate_guard (by rfl) ?_; dsimp only)); at_builtin; refine Kd.R_append k97 (w0 := wb) wb.heap.size rfl (.tmp 49) (.tmp 51) 65 97 (.agg #[.int .i64 0, .bool false, .int .i64 0, .int .i64 0]) 32 rfl Try.underlying65 info97 rfl (by decide) (by omega) v ys ⟨wrap64 (Go.bits .and .i64 x_7 127 + 1), decide (x_7 ≥ 128), x_8, x_9⟩ [.int .i64 (wrap64 (Go.bits .and .i64 x_7 127 + 1)), .bool (decide (128 ≤ x_7)), .int .i64 x_8, .int .i64 x_9] (fun k => w1.heap.size ≤ k) (fun _ => False) rfl (congrArg (fun s => Value.slice (some ⟨s, 0, none⟩) 1 1) (show w11.heap.size = ((w11.setCell ⟨w9.heap.size, 2, none⟩ (.int .i64 x_8)).setCell ⟨w9.heap.size, 3, none⟩ (.int .i64 x_9)).heap.size by simp)) ?aP (fun _ hk => hk.elim) ?aF ?aO ?aB ?aS ?aL ?_; (case aP => exact k97_mkM _ _ _ ⟨wrap64 (Go.bits .and .i64 x_7 127 + 1), decide (x_7 ≥ 128), x_8, x_9⟩); (case aF => exact fun k hk => by have h1 := S3.only.size; simp at hk; omega); (case aO => exact Kd.R_mono (Kd.R_far (p := ⟨w9.heap.size, 3, none⟩) (Kd.R_far (p := ⟨w9.heap.size, 2, none⟩) HR.out (fun k hk => by have := hk.2; show k ≠ w9.heap.size; omega) (.int .i64 x_8)) (fun k hk => by have := hk.2; show k ≠ w9.heap.size; omega) (.int .i64 x_9)) (fun k hk => hk.1)); (case aB => exact (S3.below.setCell (p := ⟨w9.heap.size, 2, none⟩) (by show _ ≤ w9.heap.size; omega) _).setCell (p := ⟨w9.heap.size, 3, none⟩) (by show _ ≤ w9.heap.size; omega) _); (case aS => have h1 := S3.below.size; simp; omega); (case aL => omega); intro v2 w12 ho hb hg hat; have hrow := fun k (hk : v.ownBlock = some k) => (HR.out.1 k hk).1; have S4 := ((S3.storeN hS1 (by have := S1.below.size; omega) hgc 2 (.int .i64 x_8)).storeN hS1 (by have := S1.below.size; omega) hgc 3 (.int .i64 x_9)).grown hb hg hrow hlr; have B2 := Aside0.mk (blk_grown (blk_far (blk_far B1.out (p := ⟨w9.heap.size, 2, none⟩) (Ne.symm hgg) (.int .i64 x_8)) (p := ⟨w9.heap.size, 3, none⟩) (Ne.symm hgg) (.int .i64 x_9)) hg (fun he => by have := hrow g he.symm; omega)); have HR2 := Aside0.mk ho; clear B1 HR BC hb hat ho; obtain ⟨A2, c2, rfl⟩ := Kd.R_slice HR2.out; have hk6 : w12.cell? ⟨g, 6, none⟩ = some v := (blk_cell B2.out 6).trans rfl; have hkz6 := blk_frozen B2.out 6))
    have hs := hs'.out
    clear hs'
    go_roundg kk
    case measure => omega
    case rel => exact ⟨_, _, ys ++ [⟨wrap64 (Go.bits .and .i64 x_7 127 + 1), decide (x_7 ≥ 128), x_8, x_9⟩], _, rfl, ⟨hs⟩, S4.store l1 (.inl rfl) hr1 6 _, ⟨blk_put B2.out 6 _ rfl⟩, ⟨by have h6 := Kd.R_far (p := ⟨g, 6, none⟩) HR2.out (fun k hk => by show k ≠ g; omega) (.slice A2 (ys.length + 1) c2); simpa using h6⟩⟩

def headseg_ParseSize.f (k : Nat) (a0_0 : Int) (l0_1 : List Int) : Option (Int × Int × Int × Int × Int × Int × (List (S97)) × Int) :=
  (sizeRead k l0_1).bind fun t => if a0_0 = 65441 then (if t.1 = 0 then (if t.2.2.2.2.2.2.2.2 < (l0_1.length : Int) then some (0, 0, 0, 0, 0, 0, [], 9) else
    (params_Header.f k t.2.1 t.2.2.1 t.2.2.2.1 t.2.2.2.2.1 t.2.2.2.2.2.1 t.2.2.2.2.2.2.1 t.2.2.2.2.2.2.2.1).bind fun r => some (if r = 0 then (t.2.1, t.2.2.1, t.2.2.2.1, t.2.2.2.2.1, t.2.2.2.2.2.1, t.2.2.2.2.2.2.1, t.2.2.2.2.2.2.2.1, 0) else (0, 0, 0, 0, 0, 0, [], r))) else some (0, 0, 0, 0, 0, 0, [], t.1)) else some (0, 0, 0, 0, 0, 0, [], 11)
theorem headseg_ParseSize.mono : ∀ a0 a1 k, LeO (headseg_ParseSize.f k a0 a1) (headseg_ParseSize.f (k + 1) a0 a1) := by
  intro a0 a1 k
  exact LeO.bind (sizeRead.mono k a1) (fun _ => LeO.ite (LeO.ite (LeO.ite (LeO.refl _) (LeO.bind (params_Header.mono _ _ _ _ _ _ _ _) (fun _ => LeO.refl _))) (LeO.refl _)) (LeO.refl _))

set_option maxHeartbeats 8000000 in
set_option maxRecDepth 100000 in
theorem headseg_ParseSize.calls (k : Nat) (a0_0 : Int) (A0_1 : Option Addr) (c0_1 : Nat) (l0_1 : List Int) (r1 : Int) (r2 : Int) (r3 : Int) (r4 : Int) (r5 : Int) (r6 : Int) (r7 : List (S97)) (r8 : Int) (w : World) (hr0_1 : Kd.C (Kd.int .u8) w A0_1 l0_1.length l0_1) (hc0_1 : l0_1.length ≤ c0_1) (h : headseg_ParseSize.f k a0_0 l0_1 = some (r1, r2, r3, r4, r5, r6, r7, r8)) :
    Calls Try.prog 39 #[.agg #[.int .i64 a0_0, .slice A0_1 l0_1.length c0_1]] w fun e w' => ∃ v6_ : Value, e = .returned (.tuple #[.agg #[.int .i64 r1, .int .i64 r2, .int .i64 r3, .int .i64 r4, .int .i64 r5, .int .i64 r6, v6_], .int .i64 r8]) ∧ Kd.R k97 97 w' w.heap.size (fun _ => True) v6_ r7 ∧ Below w.heap.size w w' := by
  cases ht : sizeRead k l0_1 with
  | none => simp [headseg_ParseSize.f, ht] at h
  | some t =>
  obtain ⟨e, x0, y0, x1, y1, tw, th, xs, pe⟩ := t
  simp only [headseg_ParseSize.f, ht, Option.bind_some] at h
  have H := Aside0.mk h
  have HT := Aside0.mk ht
  have HR := Aside0.mk hr0_1
  have HC := Aside0.mk hc0_1
  clear h ht hr0_1 hc0_1
  have hmf : ∀ (fn : Fn) (first cap : Array Value) (w : World), (Instr.makeFunc fn first cap).run Try.prog w = .ok (.func fn first cap) w := fun _ _ _ _ => rfl
  go_enter Try.func39, Try.ntmps39
  go_wp2_with (go_at_call 47; fail)
  generalize hW : ((w.alloc (Obj.cells #[Value.int IntKind.i64 a0_0, Value.slice A0_1 l0_1.length c0_1] 26)).alloc (Obj.cells #[Value.int IntKind.i64 0, Value.int IntKind.i64 0, Value.int IntKind.i64 0, Value.int IntKind.i64 0, Value.int IntKind.i64 0, Value.int IntKind.i64 0, Value.slice none 0 0] 67)).alloc (Obj.cells #[Value.int IntKind.i64 0, Value.int IntKind.i64 0, Value.int IntKind.i64 0, Value.int IntKind.i64 0, Value.int IntKind.i64 0, Value.int IntKind.i64 0, Value.slice none 0 0] 67) = W0
  have hsz : W0.heap.size = w.heap.size + 3 := by rw [← hW]; simp
  have HB : Below w.heap.size w W0 := by rw [← hW]; exact below_alloc (below_alloc (below_alloc (Below.refl _ _) _) _) _
  generalize h2 : w.heap.size + 1 + 1 = g
  generalize h1 : w.heap.size + 1 = g2
  have nb : ∀ (V : World) (g : Nat) (o : Obj), V.heap.size = g → (V.alloc o).heap[g]? = some o := fun V g o h => h ▸ blk_new V _
  have b1 : W0.heap[g]? = some (.cells #[.int .i64 0, .int .i64 0, .int .i64 0, .int .i64 0, .int .i64 0, .int .i64 0, .slice none 0 0] 67 (0, 0)) := by rw [← hW]; exact nb _ g _ (by simp; omega)
  have b2 : W0.heap[g2]? = some (.cells #[.int .i64 0, .int .i64 0, .int .i64 0, .int .i64 0, .int .i64 0, .int .i64 0, .slice none 0 0] 67 (0, 0)) := by rw [← hW]; exact blk_alloc (nb _ g2 _ (by simp; omega)) _
  clear hW nb
  refine (parse.calls 62 (fun _ _ => by simp [go_sem]) #[.pointer (some ⟨g, 0, none⟩)] (fun ra => #[.pointer (some ⟨ra, 0, none⟩), .pointer (some ⟨g, 0, none⟩)]) (fun _ => by simp) (fun k => k = g) a0_0 65441 A0_1 c0_1 l0_1 W0 (Kd.C_below HR.out HB) HC.out
    (fun p w2 => e = 0 ∧ p = pe ∧ ∃ v, w2.heap[g]? = some (.cells #[.int .i64 x0, .int .i64 y0, .int .i64 x1, .int .i64 y1, .int .i64 tw, .int .i64 th, v] 67 (0, 0)) ∧ Kd.R k97 97 w2 w.heap.size (fun k => W0.heap.size + 3 ≤ k) v xs)
    (fun e' w2 => e' = e ∧ e ≠ 0) (fun k hk => by omega) ?ok ?err ?cl).mono ?_
  case ok => exact fun p u1 u2 ⟨q1, q2, v, q3, q4⟩ ho => ⟨q1, q2, v, ho.blk q3 (by omega), Kd.R_step q4 (fun k hk hlt => ho.block k hlt (by omega))⟩
  case err => exact fun p u1 u2 q ho => q
  case cl => exact fun w1 hb1 hra hbr => (size_closure k w w1 A0_1 c0_1 l0_1 HR.out HC.out (W0.heap.size + 2) g (by omega) (by omega) (by omega) (by omega) (by omega) (HB.trans (hb1.mono (by omega))) hbr (by rw [hb1.block g (by omega)]; exact b1) e x0 y0 x1 y1 tw th xs pe HT.out).mono (fun en w2 ⟨q1, q2⟩ => ⟨q1, q2.imp (fun ⟨p, p1, p2, p3, p4, v, p5, p6⟩ => ⟨p, p1, p2, p3, p4, v, p5, Kd.R_mono p6 (fun k hk => by omega)⟩) id⟩)
  rintro en w2 ⟨y, rfl, ho, hcase⟩
  have HB2 : Below w.heap.size w w2 := HB.trans (ho.below (by omega) (by omega))
  have b22 := ho.blk b2 (by omega)
  have ng : g ≠ g2 := by omega
  have hgw : w.heap.size ≤ g2 := by omega
  have hcase' : (y ≠ 0 ∧ (r1, r2, r3, r4, r5, r6, r7, r8) = (0, 0, 0, 0, 0, 0, [], y)) ∨ (y = 0 ∧ (params_Header.f k x0 y0 x1 y1 tw th xs).bind (fun r => some (if r = 0 then (x0, y0, x1, y1, tw, th, xs, 0) else (0, 0, 0, 0, 0, 0, [], r))) = some (r1, r2, r3, r4, r5, r6, r7, r8) ∧ ∃ v, w2.heap[g]? = some (.cells #[.int .i64 x0, .int .i64 y0, .int .i64 x1, .int .i64 y1, .int .i64 tw, .int .i64 th, v] 67 (0, 0)) ∧ Kd.R k97 97 w2 w.heap.size (fun k => W0.heap.size + 3 ≤ k) v xs) := by
    have h := H.out
    rcases hcase with ⟨hne, rfl, h11⟩ | ⟨heq, ⟨p, ⟨rfl, rfl, v, q3, q4⟩, hy⟩ | ⟨rfl, q2⟩⟩
    · rw [if_neg hne] at h
      exact .inl ⟨by decide, (Option.some.inj h).symm⟩
    · rw [if_pos heq, if_pos rfl] at h
      by_cases h8 : p < (l0_1.length : Int)
      · rw [if_pos h8] at h hy
        subst hy
        exact .inl ⟨by decide, (Option.some.inj h).symm⟩
      · rw [if_neg h8] at h hy
        exact .inr ⟨hy, h, v, q3, q4⟩
    · rw [if_pos heq, if_neg q2] at h
      exact .inl ⟨q2, (Option.some.inj h).symm⟩
  clear hcase b1 b2 HB ho H HT HR HC
  have HB3 := Aside0.mk HB2
  have c0 : w2.cell? ⟨g2, 0, none⟩ = some (.int .i64 0) := (blk_cell b22 0).trans rfl
  have c1 : w2.cell? ⟨g2, 1, none⟩ = some (.int .i64 0) := (blk_cell b22 1).trans rfl
  have c2 : w2.cell? ⟨g2, 2, none⟩ = some (.int .i64 0) := (blk_cell b22 2).trans rfl
  have c3 : w2.cell? ⟨g2, 3, none⟩ = some (.int .i64 0) := (blk_cell b22 3).trans rfl
  have c4 : w2.cell? ⟨g2, 4, none⟩ = some (.int .i64 0) := (blk_cell b22 4).trans rfl
  have c5 : w2.cell? ⟨g2, 5, none⟩ = some (.int .i64 0) := (blk_cell b22 5).trans rfl
  have c6 : w2.cell? ⟨g2, 6, none⟩ = some (.slice none 0 0) := (blk_cell b22 6).trans rfl
  have z0 := blk_frozen b22 0
  have z1 := blk_frozen b22 1
  have z2 := blk_frozen b22 2
  have z3 := blk_frozen b22 3
  have z4 := blk_frozen b22 4
  have z5 := blk_frozen b22 5
  have z6 := blk_frozen b22 6
  rcases hcase' with ⟨hy, hr⟩ | ⟨hy, hf, v, bg, hR⟩
  · have hy0 : (y == 0) = false := by simpa using hy
    have hy' : (y != 0) = true := by simpa using hy
    go_wp2
    have hbz : (((((((w2.setCell ⟨g2, 0, none⟩ (.int .i64 0)).setCell ⟨g2, 1, none⟩ (.int .i64 0)).setCell ⟨g2, 2, none⟩ (.int .i64 0)).setCell ⟨g2, 3, none⟩ (.int .i64 0)).setCell ⟨g2, 4, none⟩ (.int .i64 0)).setCell ⟨g2, 5, none⟩ (.int .i64 0)).setCell ⟨g2, 6, none⟩ (.slice none 0 0)).heap[g2]? = some (.cells #[.int .i64 0, .int .i64 0, .int .i64 0, .int .i64 0, .int .i64 0, .int .i64 0, .slice none 0 0] 67 (0, 0)) := setL_full b22 [(.int .i64 0), (.int .i64 0), (.int .i64 0), (.int .i64 0), (.int .i64 0), (.int .i64 0), (.slice none 0 0)] rfl
    have hBz : Below w.heap.size w (((((((w2.setCell ⟨g2, 0, none⟩ (.int .i64 0)).setCell ⟨g2, 1, none⟩ (.int .i64 0)).setCell ⟨g2, 2, none⟩ (.int .i64 0)).setCell ⟨g2, 3, none⟩ (.int .i64 0)).setCell ⟨g2, 4, none⟩ (.int .i64 0)).setCell ⟨g2, 5, none⟩ (.int .i64 0)).setCell ⟨g2, 6, none⟩ (.slice none 0 0)) := setL_below hgw [(.int .i64 0), (.int .i64 0), (.int .i64 0), (.int .i64 0), (.int .i64 0), (.int .i64 0), (.slice none 0 0)] _ 0 HB3.out
    have q0 : (((((((w2.setCell ⟨g2, 0, none⟩ (.int .i64 0)).setCell ⟨g2, 1, none⟩ (.int .i64 0)).setCell ⟨g2, 2, none⟩ (.int .i64 0)).setCell ⟨g2, 3, none⟩ (.int .i64 0)).setCell ⟨g2, 4, none⟩ (.int .i64 0)).setCell ⟨g2, 5, none⟩ (.int .i64 0)).setCell ⟨g2, 6, none⟩ (.slice none 0 0)).cell? ⟨g2, 0, none⟩ = some (.int .i64 0) := (blk_cell hbz 0).trans rfl
    have q1 : (((((((w2.setCell ⟨g2, 0, none⟩ (.int .i64 0)).setCell ⟨g2, 1, none⟩ (.int .i64 0)).setCell ⟨g2, 2, none⟩ (.int .i64 0)).setCell ⟨g2, 3, none⟩ (.int .i64 0)).setCell ⟨g2, 4, none⟩ (.int .i64 0)).setCell ⟨g2, 5, none⟩ (.int .i64 0)).setCell ⟨g2, 6, none⟩ (.slice none 0 0)).cell? ⟨g2, 1, none⟩ = some (.int .i64 0) := (blk_cell hbz 1).trans rfl
    have q2 : (((((((w2.setCell ⟨g2, 0, none⟩ (.int .i64 0)).setCell ⟨g2, 1, none⟩ (.int .i64 0)).setCell ⟨g2, 2, none⟩ (.int .i64 0)).setCell ⟨g2, 3, none⟩ (.int .i64 0)).setCell ⟨g2, 4, none⟩ (.int .i64 0)).setCell ⟨g2, 5, none⟩ (.int .i64 0)).setCell ⟨g2, 6, none⟩ (.slice none 0 0)).cell? ⟨g2, 2, none⟩ = some (.int .i64 0) := (blk_cell hbz 2).trans rfl
    have q3 : (((((((w2.setCell ⟨g2, 0, none⟩ (.int .i64 0)).setCell ⟨g2, 1, none⟩ (.int .i64 0)).setCell ⟨g2, 2, none⟩ (.int .i64 0)).setCell ⟨g2, 3, none⟩ (.int .i64 0)).setCell ⟨g2, 4, none⟩ (.int .i64 0)).setCell ⟨g2, 5, none⟩ (.int .i64 0)).setCell ⟨g2, 6, none⟩ (.slice none 0 0)).cell? ⟨g2, 3, none⟩ = some (.int .i64 0) := (blk_cell hbz 3).trans rfl
    have q4 : (((((((w2.setCell ⟨g2, 0, none⟩ (.int .i64 0)).setCell ⟨g2, 1, none⟩ (.int .i64 0)).setCell ⟨g2, 2, none⟩ (.int .i64 0)).setCell ⟨g2, 3, none⟩ (.int .i64 0)).setCell ⟨g2, 4, none⟩ (.int .i64 0)).setCell ⟨g2, 5, none⟩ (.int .i64 0)).setCell ⟨g2, 6, none⟩ (.slice none 0 0)).cell? ⟨g2, 4, none⟩ = some (.int .i64 0) := (blk_cell hbz 4).trans rfl
    have q5 : (((((((w2.setCell ⟨g2, 0, none⟩ (.int .i64 0)).setCell ⟨g2, 1, none⟩ (.int .i64 0)).setCell ⟨g2, 2, none⟩ (.int .i64 0)).setCell ⟨g2, 3, none⟩ (.int .i64 0)).setCell ⟨g2, 4, none⟩ (.int .i64 0)).setCell ⟨g2, 5, none⟩ (.int .i64 0)).setCell ⟨g2, 6, none⟩ (.slice none 0 0)).cell? ⟨g2, 5, none⟩ = some (.int .i64 0) := (blk_cell hbz 5).trans rfl
    have q6 : (((((((w2.setCell ⟨g2, 0, none⟩ (.int .i64 0)).setCell ⟨g2, 1, none⟩ (.int .i64 0)).setCell ⟨g2, 2, none⟩ (.int .i64 0)).setCell ⟨g2, 3, none⟩ (.int .i64 0)).setCell ⟨g2, 4, none⟩ (.int .i64 0)).setCell ⟨g2, 5, none⟩ (.int .i64 0)).setCell ⟨g2, 6, none⟩ (.slice none 0 0)).cell? ⟨g2, 6, none⟩ = some (.slice none 0 0) := (blk_cell hbz 6).trans rfl
    simp only [Prod.mk.injEq] at hr
    obtain ⟨rfl, rfl, rfl, rfl, rfl, rfl, rfl, rfl⟩ := hr
    exact bodyPost_ret (v := .tuple #[.agg #[.int .i64 0, .int .i64 0, .int .i64 0, .int .i64 0, .int .i64 0, .int .i64 0, .slice none 0 0], .int .i64 r8]) (by simp [results, Try.results39, go_sem, q0, q1, q2, q3, q4, q5, q6]) rfl ⟨_, rfl, Kd.R_nil k97 97 _ _ _, hBz⟩
  · subst hy
    cases hp : params_Header.f k x0 y0 x1 y1 tw th xs with
    | none => rw [hp] at hf; exact absurd hf (by simp)
    | some r =>
    rw [hp] at hf
    have hr := Option.some.inj hf
    clear hf
    obtain ⟨A, cc, rfl⟩ := Kd.R_slice hR
    obtain ⟨-, hlc, hCC⟩ := Kd.R_reads' hR
    have HRR := Aside0.mk hR
    have HCC := Aside0.mk hCC
    have HLC := Aside0.mk hlc
    have HPP := Aside0.mk hp
    have BG := Aside0.mk bg
    have BZ := Aside0.mk b22
    clear hR hCC hlc hp
    have d0 : w2.cell? ⟨g, 0, none⟩ = some (.int .i64 x0) := (blk_cell bg 0).trans rfl
    have d1 : w2.cell? ⟨g, 1, none⟩ = some (.int .i64 y0) := (blk_cell bg 1).trans rfl
    have d2 : w2.cell? ⟨g, 2, none⟩ = some (.int .i64 x1) := (blk_cell bg 2).trans rfl
    have d3 : w2.cell? ⟨g, 3, none⟩ = some (.int .i64 y1) := (blk_cell bg 3).trans rfl
    have d4 : w2.cell? ⟨g, 4, none⟩ = some (.int .i64 tw) := (blk_cell bg 4).trans rfl
    have d5 : w2.cell? ⟨g, 5, none⟩ = some (.int .i64 th) := (blk_cell bg 5).trans rfl
    have d6 : w2.cell? ⟨g, 6, none⟩ = some (.slice A xs.length cc) := (blk_cell bg 6).trans rfl
    clear bg b22
    clear c0 c1 c2 c3 c4 c5 c6 z0 z1 z2 z3 z4 z5 z6
    have hr' := Aside0.mk hr
    clear hr
    by_cases hr0 : r = 0
    · subst hr0
      go_wp2_with (go_at_call 60; (with_reducible refine (params_Header.calls k x0 y0 x1 y1 tw th A cc xs 0 _ HCC.out HLC.out HPP.out).mono ?_); rintro en w3 ⟨rfl, hb⟩; have n1 := Aside0.mk (blk_below BZ.out hb); have n2 := Aside0.mk (blk_below BG.out hb); have n3 := Aside0.mk (Kd.R_below HRR.out hb); have n4 := Aside0.mk (below_then HB3.out HB3.out.size hb); clear BZ BG HRR HB3 HB2 HCC d0 d1 d2 d3 d4 d5 d6; have BZ := n1; have BG := n2; have HRR := n3; have HB3 := n4; clear n1 n2 n3 n4 hb; have c0 : w3.cell? ⟨g2, 0, none⟩ = some (.int .i64 0) := (blk_cell BZ.out 0).trans rfl; have z0 := blk_frozen BZ.out 0; have d0 : w3.cell? ⟨g, 0, none⟩ = some (.int .i64 x0) := (blk_cell BG.out 0).trans rfl; have c1 : w3.cell? ⟨g2, 1, none⟩ = some (.int .i64 0) := (blk_cell BZ.out 1).trans rfl; have z1 := blk_frozen BZ.out 1; have d1 : w3.cell? ⟨g, 1, none⟩ = some (.int .i64 y0) := (blk_cell BG.out 1).trans rfl; have c2 : w3.cell? ⟨g2, 2, none⟩ = some (.int .i64 0) := (blk_cell BZ.out 2).trans rfl; have z2 := blk_frozen BZ.out 2; have d2 : w3.cell? ⟨g, 2, none⟩ = some (.int .i64 x1) := (blk_cell BG.out 2).trans rfl; have c3 : w3.cell? ⟨g2, 3, none⟩ = some (.int .i64 0) := (blk_cell BZ.out 3).trans rfl; have z3 := blk_frozen BZ.out 3; have d3 : w3.cell? ⟨g, 3, none⟩ = some (.int .i64 y1) := (blk_cell BG.out 3).trans rfl; have c4 : w3.cell? ⟨g2, 4, none⟩ = some (.int .i64 0) := (blk_cell BZ.out 4).trans rfl; have z4 := blk_frozen BZ.out 4; have d4 : w3.cell? ⟨g, 4, none⟩ = some (.int .i64 tw) := (blk_cell BG.out 4).trans rfl; have c5 : w3.cell? ⟨g2, 5, none⟩ = some (.int .i64 0) := (blk_cell BZ.out 5).trans rfl; have z5 := blk_frozen BZ.out 5; have d5 : w3.cell? ⟨g, 5, none⟩ = some (.int .i64 th) := (blk_cell BG.out 5).trans rfl; have c6 : w3.cell? ⟨g2, 6, none⟩ = some (.slice none 0 0) := (blk_cell BZ.out 6).trans rfl; have z6 := blk_frozen BZ.out 6; have d6 : w3.cell? ⟨g, 6, none⟩ = some (.slice A xs.length cc) := (blk_cell BG.out 6).trans rfl)
      have hr := hr'.out
      simp only [if_true] at hr
      simp only [Prod.mk.injEq] at hr
      obtain ⟨rfl, rfl, rfl, rfl, rfl, rfl, rfl, rfl⟩ := hr
      have hbz : (((((((w3.setCell ⟨g2, 0, none⟩ (.int .i64 x0)).setCell ⟨g2, 1, none⟩ (.int .i64 y0)).setCell ⟨g2, 2, none⟩ (.int .i64 x1)).setCell ⟨g2, 3, none⟩ (.int .i64 y1)).setCell ⟨g2, 4, none⟩ (.int .i64 tw)).setCell ⟨g2, 5, none⟩ (.int .i64 th)).setCell ⟨g2, 6, none⟩ (.slice A xs.length cc)).heap[g2]? = some (.cells #[.int .i64 x0, .int .i64 y0, .int .i64 x1, .int .i64 y1, .int .i64 tw, .int .i64 th, .slice A xs.length cc] 67 (0, 0)) := setL_full BZ.out [(.int .i64 x0), (.int .i64 y0), (.int .i64 x1), (.int .i64 y1), (.int .i64 tw), (.int .i64 th), (.slice A xs.length cc)] rfl
      have hBz : Below w.heap.size w (((((((w3.setCell ⟨g2, 0, none⟩ (.int .i64 x0)).setCell ⟨g2, 1, none⟩ (.int .i64 y0)).setCell ⟨g2, 2, none⟩ (.int .i64 x1)).setCell ⟨g2, 3, none⟩ (.int .i64 y1)).setCell ⟨g2, 4, none⟩ (.int .i64 tw)).setCell ⟨g2, 5, none⟩ (.int .i64 th)).setCell ⟨g2, 6, none⟩ (.slice A xs.length cc)) := setL_below hgw [(.int .i64 x0), (.int .i64 y0), (.int .i64 x1), (.int .i64 y1), (.int .i64 tw), (.int .i64 th), (.slice A xs.length cc)] _ 0 HB3.out
      have q0 : (((((((w3.setCell ⟨g2, 0, none⟩ (.int .i64 x0)).setCell ⟨g2, 1, none⟩ (.int .i64 y0)).setCell ⟨g2, 2, none⟩ (.int .i64 x1)).setCell ⟨g2, 3, none⟩ (.int .i64 y1)).setCell ⟨g2, 4, none⟩ (.int .i64 tw)).setCell ⟨g2, 5, none⟩ (.int .i64 th)).setCell ⟨g2, 6, none⟩ (.slice A xs.length cc)).cell? ⟨g2, 0, none⟩ = some (.int .i64 x0) := (blk_cell hbz 0).trans rfl
      have q1 : (((((((w3.setCell ⟨g2, 0, none⟩ (.int .i64 x0)).setCell ⟨g2, 1, none⟩ (.int .i64 y0)).setCell ⟨g2, 2, none⟩ (.int .i64 x1)).setCell ⟨g2, 3, none⟩ (.int .i64 y1)).setCell ⟨g2, 4, none⟩ (.int .i64 tw)).setCell ⟨g2, 5, none⟩ (.int .i64 th)).setCell ⟨g2, 6, none⟩ (.slice A xs.length cc)).cell? ⟨g2, 1, none⟩ = some (.int .i64 y0) := (blk_cell hbz 1).trans rfl
      have q2 : (((((((w3.setCell ⟨g2, 0, none⟩ (.int .i64 x0)).setCell ⟨g2, 1, none⟩ (.int .i64 y0)).setCell ⟨g2, 2, none⟩ (.int .i64 x1)).setCell ⟨g2, 3, none⟩ (.int .i64 y1)).setCell ⟨g2, 4, none⟩ (.int .i64 tw)).setCell ⟨g2, 5, none⟩ (.int .i64 th)).setCell ⟨g2, 6, none⟩ (.slice A xs.length cc)).cell? ⟨g2, 2, none⟩ = some (.int .i64 x1) := (blk_cell hbz 2).trans rfl
      have q3 : (((((((w3.setCell ⟨g2, 0, none⟩ (.int .i64 x0)).setCell ⟨g2, 1, none⟩ (.int .i64 y0)).setCell ⟨g2, 2, none⟩ (.int .i64 x1)).setCell ⟨g2, 3, none⟩ (.int .i64 y1)).setCell ⟨g2, 4, none⟩ (.int .i64 tw)).setCell ⟨g2, 5, none⟩ (.int .i64 th)).setCell ⟨g2, 6, none⟩ (.slice A xs.length cc)).cell? ⟨g2, 3, none⟩ = some (.int .i64 y1) := (blk_cell hbz 3).trans rfl
      have q4 : (((((((w3.setCell ⟨g2, 0, none⟩ (.int .i64 x0)).setCell ⟨g2, 1, none⟩ (.int .i64 y0)).setCell ⟨g2, 2, none⟩ (.int .i64 x1)).setCell ⟨g2, 3, none⟩ (.int .i64 y1)).setCell ⟨g2, 4, none⟩ (.int .i64 tw)).setCell ⟨g2, 5, none⟩ (.int .i64 th)).setCell ⟨g2, 6, none⟩ (.slice A xs.length cc)).cell? ⟨g2, 4, none⟩ = some (.int .i64 tw) := (blk_cell hbz 4).trans rfl
      have q5 : (((((((w3.setCell ⟨g2, 0, none⟩ (.int .i64 x0)).setCell ⟨g2, 1, none⟩ (.int .i64 y0)).setCell ⟨g2, 2, none⟩ (.int .i64 x1)).setCell ⟨g2, 3, none⟩ (.int .i64 y1)).setCell ⟨g2, 4, none⟩ (.int .i64 tw)).setCell ⟨g2, 5, none⟩ (.int .i64 th)).setCell ⟨g2, 6, none⟩ (.slice A xs.length cc)).cell? ⟨g2, 5, none⟩ = some (.int .i64 th) := (blk_cell hbz 5).trans rfl
      have q6 : (((((((w3.setCell ⟨g2, 0, none⟩ (.int .i64 x0)).setCell ⟨g2, 1, none⟩ (.int .i64 y0)).setCell ⟨g2, 2, none⟩ (.int .i64 x1)).setCell ⟨g2, 3, none⟩ (.int .i64 y1)).setCell ⟨g2, 4, none⟩ (.int .i64 tw)).setCell ⟨g2, 5, none⟩ (.int .i64 th)).setCell ⟨g2, 6, none⟩ (.slice A xs.length cc)).cell? ⟨g2, 6, none⟩ = some (.slice A xs.length cc) := (blk_cell hbz 6).trans rfl
      have hRz := Kd.R_mono (setL_R (g := g2) (fun k hk => by omega) [(.int .i64 x0), (.int .i64 y0), (.int .i64 x1), (.int .i64 y1), (.int .i64 tw), (.int .i64 th), (.slice A xs.length cc)] w3 0 HRR.out) (ok' := fun _ => True) (fun _ _ => trivial)
      exact bodyPost_ret (v := .tuple #[.agg #[.int .i64 x0, .int .i64 y0, .int .i64 x1, .int .i64 y1, .int .i64 tw, .int .i64 th, .slice A xs.length cc], .int .i64 0]) (by simp [results, Try.results39, go_sem, q0, q1, q2, q3, q4, q5, q6]) rfl ⟨_, rfl, hRz, hBz⟩
    · have hr0' : (r == 0) = false := by simpa using hr0
      have hr1' : (r != 0) = true := by simpa using hr0
      go_wp2_with (go_at_call 60; (with_reducible refine (params_Header.calls k x0 y0 x1 y1 tw th A cc xs r _ HCC.out HLC.out HPP.out).mono ?_); rintro en w3 ⟨rfl, hb⟩; have n1 := Aside0.mk (blk_below BZ.out hb); have n2 := Aside0.mk (blk_below BG.out hb); have n4 := Aside0.mk (below_then HB3.out HB3.out.size hb); clear BZ BG HRR HB3 HB2 HCC d0 d1 d2 d3 d4 d5 d6; have BZ := n1; have BG := n2; have HB3 := n4; clear n1 n2 n4 hb; have c0 : w3.cell? ⟨g2, 0, none⟩ = some (.int .i64 0) := (blk_cell BZ.out 0).trans rfl; have z0 := blk_frozen BZ.out 0; have d0 : w3.cell? ⟨g, 0, none⟩ = some (.int .i64 x0) := (blk_cell BG.out 0).trans rfl; have c1 : w3.cell? ⟨g2, 1, none⟩ = some (.int .i64 0) := (blk_cell BZ.out 1).trans rfl; have z1 := blk_frozen BZ.out 1; have d1 : w3.cell? ⟨g, 1, none⟩ = some (.int .i64 y0) := (blk_cell BG.out 1).trans rfl; have c2 : w3.cell? ⟨g2, 2, none⟩ = some (.int .i64 0) := (blk_cell BZ.out 2).trans rfl; have z2 := blk_frozen BZ.out 2; have d2 : w3.cell? ⟨g, 2, none⟩ = some (.int .i64 x1) := (blk_cell BG.out 2).trans rfl; have c3 : w3.cell? ⟨g2, 3, none⟩ = some (.int .i64 0) := (blk_cell BZ.out 3).trans rfl; have z3 := blk_frozen BZ.out 3; have d3 : w3.cell? ⟨g, 3, none⟩ = some (.int .i64 y1) := (blk_cell BG.out 3).trans rfl; have c4 : w3.cell? ⟨g2, 4, none⟩ = some (.int .i64 0) := (blk_cell BZ.out 4).trans rfl; have z4 := blk_frozen BZ.out 4; have d4 : w3.cell? ⟨g, 4, none⟩ = some (.int .i64 tw) := (blk_cell BG.out 4).trans rfl; have c5 : w3.cell? ⟨g2, 5, none⟩ = some (.int .i64 0) := (blk_cell BZ.out 5).trans rfl; have z5 := blk_frozen BZ.out 5; have d5 : w3.cell? ⟨g, 5, none⟩ = some (.int .i64 th) := (blk_cell BG.out 5).trans rfl; have c6 : w3.cell? ⟨g2, 6, none⟩ = some (.slice none 0 0) := (blk_cell BZ.out 6).trans rfl; have z6 := blk_frozen BZ.out 6; have d6 : w3.cell? ⟨g, 6, none⟩ = some (.slice A xs.length cc) := (blk_cell BG.out 6).trans rfl)
      have hr := hr'.out
      rw [if_neg hr0] at hr
      simp only [Prod.mk.injEq] at hr
      obtain ⟨rfl, rfl, rfl, rfl, rfl, rfl, rfl, rfl⟩ := hr
      have hbz : (((((((w3.setCell ⟨g2, 0, none⟩ (.int .i64 0)).setCell ⟨g2, 1, none⟩ (.int .i64 0)).setCell ⟨g2, 2, none⟩ (.int .i64 0)).setCell ⟨g2, 3, none⟩ (.int .i64 0)).setCell ⟨g2, 4, none⟩ (.int .i64 0)).setCell ⟨g2, 5, none⟩ (.int .i64 0)).setCell ⟨g2, 6, none⟩ (.slice none 0 0)).heap[g2]? = some (.cells #[.int .i64 0, .int .i64 0, .int .i64 0, .int .i64 0, .int .i64 0, .int .i64 0, .slice none 0 0] 67 (0, 0)) := setL_full BZ.out [(.int .i64 0), (.int .i64 0), (.int .i64 0), (.int .i64 0), (.int .i64 0), (.int .i64 0), (.slice none 0 0)] rfl
      have hBz : Below w.heap.size w (((((((w3.setCell ⟨g2, 0, none⟩ (.int .i64 0)).setCell ⟨g2, 1, none⟩ (.int .i64 0)).setCell ⟨g2, 2, none⟩ (.int .i64 0)).setCell ⟨g2, 3, none⟩ (.int .i64 0)).setCell ⟨g2, 4, none⟩ (.int .i64 0)).setCell ⟨g2, 5, none⟩ (.int .i64 0)).setCell ⟨g2, 6, none⟩ (.slice none 0 0)) := setL_below hgw [(.int .i64 0), (.int .i64 0), (.int .i64 0), (.int .i64 0), (.int .i64 0), (.int .i64 0), (.slice none 0 0)] _ 0 HB3.out
      have q0 : (((((((w3.setCell ⟨g2, 0, none⟩ (.int .i64 0)).setCell ⟨g2, 1, none⟩ (.int .i64 0)).setCell ⟨g2, 2, none⟩ (.int .i64 0)).setCell ⟨g2, 3, none⟩ (.int .i64 0)).setCell ⟨g2, 4, none⟩ (.int .i64 0)).setCell ⟨g2, 5, none⟩ (.int .i64 0)).setCell ⟨g2, 6, none⟩ (.slice none 0 0)).cell? ⟨g2, 0, none⟩ = some (.int .i64 0) := (blk_cell hbz 0).trans rfl
      have q1 : (((((((w3.setCell ⟨g2, 0, none⟩ (.int .i64 0)).setCell ⟨g2, 1, none⟩ (.int .i64 0)).setCell ⟨g2, 2, none⟩ (.int .i64 0)).setCell ⟨g2, 3, none⟩ (.int .i64 0)).setCell ⟨g2, 4, none⟩ (.int .i64 0)).setCell ⟨g2, 5, none⟩ (.int .i64 0)).setCell ⟨g2, 6, none⟩ (.slice none 0 0)).cell? ⟨g2, 1, none⟩ = some (.int .i64 0) := (blk_cell hbz 1).trans rfl
      have q2 : (((((((w3.setCell ⟨g2, 0, none⟩ (.int .i64 0)).setCell ⟨g2, 1, none⟩ (.int .i64 0)).setCell ⟨g2, 2, none⟩ (.int .i64 0)).setCell ⟨g2, 3, none⟩ (.int .i64 0)).setCell ⟨g2, 4, none⟩ (.int .i64 0)).setCell ⟨g2, 5, none⟩ (.int .i64 0)).setCell ⟨g2, 6, none⟩ (.slice none 0 0)).cell? ⟨g2, 2, none⟩ = some (.int .i64 0) := (blk_cell hbz 2).trans rfl
      have q3 : (((((((w3.setCell ⟨g2, 0, none⟩ (.int .i64 0)).setCell ⟨g2, 1, none⟩ (.int .i64 0)).setCell ⟨g2, 2, none⟩ (.int .i64 0)).setCell ⟨g2, 3, none⟩ (.int .i64 0)).setCell ⟨g2, 4, none⟩ (.int .i64 0)).setCell ⟨g2, 5, none⟩ (.int .i64 0)).setCell ⟨g2, 6, none⟩ (.slice none 0 0)).cell? ⟨g2, 3, none⟩ = some (.int .i64 0) := (blk_cell hbz 3).trans rfl
      have q4 : (((((((w3.setCell ⟨g2, 0, none⟩ (.int .i64 0)).setCell ⟨g2, 1, none⟩ (.int .i64 0)).setCell ⟨g2, 2, none⟩ (.int .i64 0)).setCell ⟨g2, 3, none⟩ (.int .i64 0)).setCell ⟨g2, 4, none⟩ (.int .i64 0)).setCell ⟨g2, 5, none⟩ (.int .i64 0)).setCell ⟨g2, 6, none⟩ (.slice none 0 0)).cell? ⟨g2, 4, none⟩ = some (.int .i64 0) := (blk_cell hbz 4).trans rfl
      have q5 : (((((((w3.setCell ⟨g2, 0, none⟩ (.int .i64 0)).setCell ⟨g2, 1, none⟩ (.int .i64 0)).setCell ⟨g2, 2, none⟩ (.int .i64 0)).setCell ⟨g2, 3, none⟩ (.int .i64 0)).setCell ⟨g2, 4, none⟩ (.int .i64 0)).setCell ⟨g2, 5, none⟩ (.int .i64 0)).setCell ⟨g2, 6, none⟩ (.slice none 0 0)).cell? ⟨g2, 5, none⟩ = some (.int .i64 0) := (blk_cell hbz 5).trans rfl
      have q6 : (((((((w3.setCell ⟨g2, 0, none⟩ (.int .i64 0)).setCell ⟨g2, 1, none⟩ (.int .i64 0)).setCell ⟨g2, 2, none⟩ (.int .i64 0)).setCell ⟨g2, 3, none⟩ (.int .i64 0)).setCell ⟨g2, 4, none⟩ (.int .i64 0)).setCell ⟨g2, 5, none⟩ (.int .i64 0)).setCell ⟨g2, 6, none⟩ (.slice none 0 0)).cell? ⟨g2, 6, none⟩ = some (.slice none 0 0) := (blk_cell hbz 6).trans rfl
      exact bodyPost_ret (v := .tuple #[.agg #[.int .i64 0, .int .i64 0, .int .i64 0, .int .i64 0, .int .i64 0, .int .i64 0, .slice none 0 0], .int .i64 r]) (by simp [results, Try.results39, go_sem, q0, q1, q2, q3, q4, q5, q6]) rfl ⟨_, rfl, Kd.R_nil k97 97 _ _ _, hBz⟩
end Go.Proofs.Ytihfopblmjgfaaa.Q

namespace Go.Proofs.Ytihfopblmjgfaaa.Q
open Go.RowKit Go.Proofs.YtihfopblmjgfaaaW.PrintWords Go.Proofs.YtihfopblmjgfaaaW.PrintLast Go.Proofs.YtihfopblmjgfaaaW.PrintMore
attribute [local go_sem] max2_int min2_int max_two min_two max_three min_three max_four min_four   -- for this text's walks alone
set_option linter.unusedVariables false
set_option linter.unusedSimpArgs false

/-! ### waveletref29_framed: function 50 -/
def waveletref29_framed.f (a0_0 : Int) (l0_1 : List Int) (a1 : Int) (a2 : Int) : Option (Int) := if a0_0 = a1 then (if (l0_1.length : Int) < a2 then (some 7) else (if (l0_1.length : Int) > a2 then (some 9) else (some 0))) else (some 11)
set_option maxHeartbeats 8000000 in
set_option maxRecDepth 100000 in
theorem waveletref29_framed.calls (a0_0 : Int) (A0_1 : Option Addr) (c0_1 : Nat) (l0_1 : List Int) (a1 : Int) (a2 : Int) (r : Int) (w : World) (hr0_1 : Kd.C (Kd.int .u8) w A0_1 l0_1.length l0_1) (hc0_1 : l0_1.length ≤ c0_1) (h : waveletref29_framed.f a0_0 l0_1 a1 a2 = some r) :
    Calls Try.prog 50 #[.agg #[.int .i64 a0_0, .slice A0_1 l0_1.length c0_1], .int .i64 a1, .int .i64 a2] w fun e w' => e = .returned (.int .i64 r) ∧ Below w.heap.size w w' := by
  have hu26 := Try.underlying26
  have HR0_1 := Aside0.mk hr0_1
  have HC0_1 := Aside0.mk hc0_1
  clear hr0_1 hc0_1
  have HB := Aside0.mk (Below.refl w.heap.size w)
  have H : (if a0_0 = a1 then (if (l0_1.length : Int) < a2 then (some 7) else (if (l0_1.length : Int) > a2 then (some 9) else (some 0))) else (some 11)) = some r := h
  clear h
  by_cases c4 : a0_0 = a1
  · rw [if_pos c4] at H
    have c4b0 : (a0_0 == a1) = true := beq_iff_eq.mpr c4
    have c4b1 : (a0_0 != a1) = false := bne_eq_false_iff_eq.mpr c4
    clear c4
    by_cases c5 : (l0_1.length : Int) < a2
    · rw [if_pos c5] at H
      have c5b0 : decide ((l0_1.length : Int) < a2) = true := decide_eq_true c5
      clear c5
      obtain rfl := Option.some.inj H
      go_enter Try.func50, Try.ntmps50
      go_wp2_with (first | ((with_reducible refine gate_dst (N := 3) rfl ?_); refine box_event ?hg (N := 3) ?hd (cs := #[.int .i64 a0_0, .slice A0_1 l0_1.length c0_1]) (t := 26) ?hr ?_; (case hd => rfl); (case hg => rfl); (case hr => first | (go_simp; done) | (go_simp; rfl)); intro gb131 hg w6 hbox hb; have BK131 := Aside0.mk (hbox); have GW131 := Aside0.mk ((by rw [hg]; exact (below_size (upB HB.out)) : w.heap.size ≤ gb131)); have GE131 := Aside0.mk ((by rw [hg]; exact (below_size (upB HB.out)) : w.heap.size ≤ gb131)); replace HB := Aside0.mk (below_step (upB HB.out) hb); clear hb hbox hg; have hcz7_0 : w6.cell? ⟨gb131, 0, none⟩ = some (.int .i64 a0_0) := bc BK131 0; have hcz7_1 : w6.cell? ⟨gb131, 1, none⟩ = some (.slice A0_1 l0_1.length c0_1) := bc BK131 1; have hfz7_0 := blk_frozen BK131.out 0; have hfz7_1 := blk_frozen BK131.out 1))
      go_ret
      exact ⟨by first | rfl | (simp [errW_none, errW_some] <;> rfl) | (simp [*, errW_none, errW_some] <;> rfl), by repeat (first | (with_reducible first | exact HB.out | apply below_alloc | apply pw_below_drewN | apply below_drew1 | refine below_set ?_ GE131.out) | exact HB.out)⟩
    · rw [if_neg c5] at H
      have c5b0 : decide ((l0_1.length : Int) < a2) = false := decide_eq_false c5
      clear c5
      by_cases c8 : (l0_1.length : Int) > a2
      · rw [if_pos c8] at H
        have c8b0 : decide (a2 < (l0_1.length : Int)) = true := decide_eq_true c8
        clear c8
        obtain rfl := Option.some.inj H
        go_enter Try.func50, Try.ntmps50
        go_wp2_with (first | ((with_reducible refine gate_dst (N := 3) rfl ?_); refine box_event ?hg (N := 3) ?hd (cs := #[.int .i64 a0_0, .slice A0_1 l0_1.length c0_1]) (t := 26) ?hr ?_; (case hd => rfl); (case hg => rfl); (case hr => first | (go_simp; done) | (go_simp; rfl)); intro gb131 hg w9 hbox hb; have BK131 := Aside0.mk (hbox); have GW131 := Aside0.mk ((by rw [hg]; exact (below_size (upB HB.out)) : w.heap.size ≤ gb131)); have GE131 := Aside0.mk ((by rw [hg]; exact (below_size (upB HB.out)) : w.heap.size ≤ gb131)); replace HB := Aside0.mk (below_step (upB HB.out) hb); clear hb hbox hg; have hcz10_0 : w9.cell? ⟨gb131, 0, none⟩ = some (.int .i64 a0_0) := bc BK131 0; have hcz10_1 : w9.cell? ⟨gb131, 1, none⟩ = some (.slice A0_1 l0_1.length c0_1) := bc BK131 1; have hfz10_0 := blk_frozen BK131.out 0; have hfz10_1 := blk_frozen BK131.out 1))
        go_ret
        exact ⟨by first | rfl | (simp [errW_none, errW_some] <;> rfl) | (simp [*, errW_none, errW_some] <;> rfl), by repeat (first | (with_reducible first | exact HB.out | apply below_alloc | apply pw_below_drewN | apply below_drew1 | refine below_set ?_ GE131.out) | exact HB.out)⟩
      · rw [if_neg c8] at H
        have c8b0 : decide (a2 < (l0_1.length : Int)) = false := decide_eq_false c8
        clear c8
        obtain rfl := Option.some.inj H
        go_enter Try.func50, Try.ntmps50
        go_wp2_with (first | ((with_reducible refine gate_dst (N := 3) rfl ?_); refine box_event ?hg (N := 3) ?hd (cs := #[.int .i64 a0_0, .slice A0_1 l0_1.length c0_1]) (t := 26) ?hr ?_; (case hd => rfl); (case hg => rfl); (case hr => first | (go_simp; done) | (go_simp; rfl)); intro gb131 hg w11 hbox hb; have BK131 := Aside0.mk (hbox); have GW131 := Aside0.mk ((by rw [hg]; exact (below_size (upB HB.out)) : w.heap.size ≤ gb131)); have GE131 := Aside0.mk ((by rw [hg]; exact (below_size (upB HB.out)) : w.heap.size ≤ gb131)); replace HB := Aside0.mk (below_step (upB HB.out) hb); clear hb hbox hg; have hcz12_0 : w11.cell? ⟨gb131, 0, none⟩ = some (.int .i64 a0_0) := bc BK131 0; have hcz12_1 : w11.cell? ⟨gb131, 1, none⟩ = some (.slice A0_1 l0_1.length c0_1) := bc BK131 1; have hfz12_0 := blk_frozen BK131.out 0; have hfz12_1 := blk_frozen BK131.out 1))
        go_ret
        exact ⟨by first | rfl | (simp [errW_none, errW_some] <;> rfl) | (simp [*, errW_none, errW_some] <;> rfl), by repeat (first | (with_reducible first | exact HB.out | apply below_alloc | apply pw_below_drewN | apply below_drew1 | refine below_set ?_ GE131.out) | exact HB.out)⟩
  · rw [if_neg c4] at H
    have c4b0 : (a0_0 == a1) = false := beq_eq_false_iff_ne.mpr c4
    have c4b1 : (a0_0 != a1) = true := bne_iff_ne.mpr c4
    obtain rfl := Option.some.inj H
    go_enter Try.func50, Try.ntmps50
    go_wp2_with (first | ((with_reducible refine gate_dst (N := 3) rfl ?_); refine box_event ?hg (N := 3) ?hd (cs := #[.int .i64 a0_0, .slice A0_1 l0_1.length c0_1]) (t := 26) ?hr ?_; (case hd => rfl); (case hg => rfl); (case hr => first | (go_simp; done) | (go_simp; rfl)); intro gb131 hg w13 hbox hb; have BK131 := Aside0.mk (hbox); have GW131 := Aside0.mk ((by rw [hg]; exact (below_size (upB HB.out)) : w.heap.size ≤ gb131)); have GE131 := Aside0.mk ((by rw [hg]; exact (below_size (upB HB.out)) : w.heap.size ≤ gb131)); replace HB := Aside0.mk (below_step (upB HB.out) hb); clear hb hbox hg; have hcz14_0 : w13.cell? ⟨gb131, 0, none⟩ = some (.int .i64 a0_0) := bc BK131 0; have hcz14_1 : w13.cell? ⟨gb131, 1, none⟩ = some (.slice A0_1 l0_1.length c0_1) := bc BK131 1; have hfz14_0 := blk_frozen BK131.out 0; have hfz14_1 := blk_frozen BK131.out 1))
    go_ret
    exact ⟨by first | rfl | (simp [errW_none, errW_some] <;> rfl) | (simp [*, errW_none, errW_some] <;> rfl), by repeat (first | (with_reducible first | exact HB.out | apply below_alloc | apply pw_below_drewN | apply below_drew1 | refine below_set ?_ GE131.out) | exact HB.out)⟩

end Go.Proofs.Ytihfopblmjgfaaa.Q

namespace Go.Proofs.Ytihfopblmjgfaaa.Q
open Go.RowKit Go.Proofs.YtihfopblmjgfaaaW.PrintWords Go.Proofs.YtihfopblmjgfaaaW.PrintLast Go.Proofs.YtihfopblmjgfaaaW.PrintMore
attribute [local go_sem] max2_int min2_int max_two min_two max_three min_three max_four min_four   -- for this text's walks alone
set_option linter.unusedVariables false
set_option linter.unusedSimpArgs false

/-! ### waveletref29_get: function 51 -/
def waveletref29_get.l0 : Nat → List Int → Int → Int → Int → Int → Option (Int)
  | 0, _, _, _, _, _ => none
  | k + 1, x0, x1, x2, x7, x8 => if x8 < x2 then (if 0 ≤ (wrap64 (x1 + x8)) then (if (wrap64 (x1 + x8)) < (x0.length : Int) then (waveletref29_get.l0 k x0 x1 x2 (wrap64 ((wrap64 (256 * x7)) + (wrap64 (rd x0 (wrap64 (x1 + x8)))))) (wrap64 (x8 + 1))) else (none)) else (none)) else (some x7)
def waveletref29_get.f (k : Nat) (l0 : List Int) (a1 : Int) (a2 : Int) : Option (Int) := waveletref29_get.l0 k l0 a1 a2 0 0
theorem waveletref29_get.mono_l : ∀ k, (∀ y0 y1 y2 y3 y4, LeO (waveletref29_get.l0 k y0 y1 y2 y3 y4) (waveletref29_get.l0 (k + 1) y0 y1 y2 y3 y4))
  | 0 => fun _ _ _ _ _ r h => by simp [waveletref29_get.l0] at h
  | k + 1 => by
    have ih0 := waveletref29_get.mono_l k
    · intro y0 y1 y2 y3 y4
      unfold waveletref29_get.l0
      repeat' first
      | (with_reducible exact ih0 _ _ _ _ _)
      | (with_reducible exact LeO.refl _)
      | (with_reducible exact LeO.none _)
      | (with_reducible refine LeO.ite ?_ ?_)
      | (with_reducible refine LeO.bind ?_ (fun _ => ?_))
      | exact ih0 _ _ _ _ _
      | exact LeO.none _
      | refine LeO.ite ?_ ?_
      | refine LeO.bind ?_ (fun _ => ?_)
theorem waveletref29_get.mono : ∀ a0 a1 a2 k, LeO (waveletref29_get.f k a0 a1 a2) (waveletref29_get.f (k + 1) a0 a1 a2) := by
  intro a0 a1 a2 k
  have ih0 := waveletref29_get.mono_l k
  unfold waveletref29_get.f
  repeat' first
      | (with_reducible exact ih0 _ _ _ _ _)
      | (with_reducible exact LeO.refl _)
      | (with_reducible exact LeO.none _)
      | (with_reducible refine LeO.ite ?_ ?_)
      | (with_reducible refine LeO.bind ?_ (fun _ => ?_))
      | exact ih0 _ _ _ _ _
      | exact LeO.none _
      | refine LeO.ite ?_ ?_
      | refine LeO.bind ?_ (fun _ => ?_)
set_option maxHeartbeats 8000000 in
set_option maxRecDepth 100000 in
theorem waveletref29_get.calls (k : Nat) (A0 : Option Addr) (c0 : Nat) (l0 : List Int) (a1 : Int) (a2 : Int) (r : Int) (w : World) (hr0 : Kd.C (Kd.int .u8) w A0 l0.length l0) (hc0 : l0.length ≤ c0) (h : waveletref29_get.f k l0 a1 a2 = some r) :
    Calls Try.prog 51 #[.slice A0 l0.length c0, .int .i64 a1, .int .i64 a2] w fun e w' => e = .returned (.int .i64 r) ∧ Drawn0 w w' := by
  have HR0 := Aside0.mk hr0
  have HC0 := Aside0.mk hc0
  clear hr0 hc0
  have H : (waveletref29_get.l0 k l0 a1 a2 0 0) = some r := h
  clear h
  have H' := Aside0.mk H
  clear H
  go_enter Try.func51, Try.ntmps51
  go_wp2
  go_loopg [7, 8] k (fun kq v7 v8 w' => ∃ (x7_1 : Int) (x8_1 : Int), v7 = .int .i64 x7_1 ∧ v8 = .int .i64 x8_1 ∧ Aside0 (waveletref29_get.l0 kq l0 a1 a2 x7_1 x8_1 = some r) ∧ Aside0 (kq ≤ k) ∧ Drawn0 w w')
  case atStart => exact ⟨(0), (0), (by first | rfl | (simp; done) | (simp [*]; done)), (by first | rfl | (simp; done) | (simp [*]; done)), H', ⟨Nat.le_refl _⟩, by repeat (first | exact Drawn0.refl _ | apply Drawn0.step)⟩
  case round =>
    clear H'
    try clear p2
    obtain ⟨x7_1, x8_1, rfl, rfl, HA, HK1, ⟨m1, rfl⟩⟩ := hrel
    cases gk with
    | zero => exact absurd HA.out (by simp [waveletref29_get.l0])
    | succ k1 =>
      have H := HA.out
      clear HA
      simp only [waveletref29_get.l0] at H
      by_cases c4 : x8_1 < a2
      · rw [if_pos c4] at H
        have c4b0 : decide (x8_1 < a2) = true := decide_eq_true c4
        clear c4
        obtain ⟨ji5, hji5⟩ : ∃ j_ : Int, (wrap64 (a1 + x8_1)) = j_ := ⟨_, rfl⟩
        replace H : (if 0 ≤ (ji5) then (if (ji5) < (l0.length : Int) then (waveletref29_get.l0 k1 l0 a1 a2 (wrap64 ((wrap64 (256 * x7_1)) + (wrap64 (rd l0 (ji5))))) (wrap64 (x8_1 + 1))) else (none)) else (none)) = some r := by first | (rw [hji5] at H; exact H) | (simp only [hji5] at H ⊢; exact H)
        have hji5w : (IntKind.i64.wrap (a1 + x8_1)) = ji5 := (i64_w _).trans hji5
        by_cases c6 : 0 ≤ (ji5)
        · rw [if_pos c6] at H
          have c6b0 : decide (0 ≤ (ji5)) = true := decide_eq_true c6
          clear c6
          by_cases c7 : (ji5) < (l0.length : Int)
          · rw [if_pos c7] at H
            have c7b0 : decide ((ji5) < (l0.length : Int)) = true := decide_eq_true c7
            clear c7
            have H' := Aside0.mk H
            clear H
            have p132 : 0 ≤ ((ji5) : Int) := of_decide_eq_true (by first | (with_reducible assumption) | assumption)
            have q132 : (ji5) < (l0.length : Int) := of_decide_eq_true (by first | (with_reducible assumption) | assumption)
            obtain ⟨ad132, e132, hx132_0⟩ := Kd.at_int HR0.out (ji5) p132 q132
            cases e132
            replace p132 := eq_true p132
            replace q132 := eq_true q132
            go_wp2
            go_roundg k1
            case measure => have := HK1.out; omega
            case rel => exact ⟨(wrap64 ((wrap64 (256 * x7_1)) + (wrap64 (rd l0 (ji5))))), (wrap64 (x8_1 + 1)), (by first | rfl | (simp; done) | (simp only [← hji5] <;> (first | rfl | simp)) | (simp [*]; done)), (by first | rfl | (simp; done) | (simp [*]; done)), H', ⟨by have := HK1.out; omega⟩, by repeat (first | exact Drawn0.refl _ | apply Drawn0.step)⟩
          · rw [if_neg c7] at H
            exact absurd H (by simp)
        · rw [if_neg c6] at H
          exact absurd H (by simp)
      · rw [if_neg c4] at H
        have c4b0 : decide (x8_1 < a2) = false := decide_eq_false c4
        clear c4
        obtain rfl := Option.some.inj H
        go_wp2
        go_ret
        exact ⟨by first | rfl | (simp; done) | (simp [*]; done), by repeat (first | exact Drawn0.refl _ | apply Drawn0.step)⟩

end Go.Proofs.Ytihfopblmjgfaaa.Q
