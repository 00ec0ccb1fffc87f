/- ParseTile: the closure that reads a tile-part's numbers, and the function. Printed by wip/tools/genTile.py of this session. -/
import Derived.Test.YtihfopblmjgfaaaHRead
namespace Go.Proofs.Ytihfopblmjgfaaa.Q
open Go.RowKit Go.Proofs.YtihfopblmjgfaaaW.PrintWords Go.Proofs.YtihfopblmjgfaaaW.PrintLast Go.Proofs.YtihfopblmjgfaaaW.PrintMore
set_option linter.unusedVariables false
set_option linter.unusedSimpArgs false

/-- A block of one number. -/
def HasInt (w : World) (g : Nat) : Prop := ∃ x, w.heap[g]? = some (.cells #[.int .i64 x] 3 (0, 0))

/-- What the closure leaves: the error (0: none), the four numbers. -/
def tileRead (k : Nat) (l : List Int) : Option (Int × Int × Int × Int × Int) :=
  (marker_ReadUint.f k l 0 2).bind fun q0 => if q0.2 = 0 then (marker_ReadUint.f k l 2 1).bind fun q1 => if q1.2 = 0 then (marker_ReadUint.f k l 3 1).bind fun q2 => if q2.2 = 0 then (marker_ReadUint.f k l 4 4).bind fun q3 => if q3.2 = 0 then some (0, q0.1, q1.1, q2.1, q3.1) else some (q3.2, 0, 0, 0, 0) else some (q2.2, 0, 0, 0, 0) else some (q1.2, 0, 0, 0, 0) else some (q0.2, 0, 0, 0, 0)

set_option maxHeartbeats 8000000 in
set_option maxRecDepth 100000 in
theorem tile_closure (k : Nat) (wb w1 : World) (A : Option Addr) (c : Nat) (l : List Int) (hC : Kd.C (Kd.int .u8) wb A l.length l) (hc : l.length ≤ c) (ra g1 g2 g3 g4 : Nat)
    (d12 : g1 ≠ g2) (d13 : g1 ≠ g3) (d14 : g1 ≠ g4) (d23 : g2 ≠ g3) (d24 : g2 ≠ g4) (d34 : g3 ≠ g4) (hr1 : g1 ≠ ra) (hr2 : g2 ≠ ra) (hr3 : g3 ≠ ra) (hr4 : g4 ≠ ra) (l0 : wb.heap.size ≤ ra) (l1 : wb.heap.size ≤ g1) (l2 : wb.heap.size ≤ g2) (l3 : wb.heap.size ≤ g3) (l4 : wb.heap.size ≤ g4)
    (hB : Below wb.heap.size wb w1) (br : w1.heap[ra]? = some (.cells #[.slice A l.length c, .int .i64 0] 102 (0, 0))) (b1 : w1.heap[g1]? = some (.cells #[.int .i64 0] 3 (0, 0))) (b2 : w1.heap[g2]? = some (.cells #[.int .i64 0] 3 (0, 0))) (b3 : w1.heap[g3]? = some (.cells #[.int .i64 0] 3 (0, 0))) (b4 : w1.heap[g4]? = some (.cells #[.int .i64 0] 3 (0, 0)))
    (e v1 v2 v3 v4 : Int) (h : tileRead k l = some (e, v1, v2, v3, v4)) :
    Calls Try.prog 48 #[.pointer (some ⟨ra, 0, none⟩), .pointer (some ⟨g1, 0, none⟩), .pointer (some ⟨g2, 0, none⟩), .pointer (some ⟨g3, 0, none⟩), .pointer (some ⟨g4, 0, none⟩)] w1 fun en w2 => Only (fun k => (k = g1 ∨ k = g2 ∨ k = g3 ∨ k = g4) ∨ k = ra) w1 w2 ∧
      ((∃ p, en = .returned (.tuple #[]) ∧ w2.heap[ra]? = some (.cells #[.slice A l.length c, .int .i64 p] 102 (0, 0)) ∧ (e = 0 ∧ p = 8 ∧ w2.heap[g1]? = some (.cells #[.int .i64 v1] 3 (0, 0)) ∧ w2.heap[g2]? = some (.cells #[.int .i64 v2] 3 (0, 0)) ∧ w2.heap[g3]? = some (.cells #[.int .i64 v3] 3 (0, 0)) ∧ w2.heap[g4]? = some (.cells #[.int .i64 v4] 3 (0, 0)))) ∨
        ∃ e', en = .panicked [{ v := .iface 99 (.agg #[.int .i64 e']), recovered := false }] ∧ (e' = e ∧ e ≠ 0 ∧ HasInt w2 g1 ∧ HasInt w2 g2 ∧ HasInt w2 g3 ∧ HasInt w2 g4)) := by
  have H := Aside0.mk h
  have R := RS.mk (S := fun k => (k = g1 ∨ k = g2 ∨ k = g3 ∨ k = g4) ∨ k = ra) br hB (Only.refl _ w1)
  have B1 := Aside0.mk b1
  have B2 := Aside0.mk b2
  have B3 := Aside0.mk b3
  have B4 := Aside0.mk b4
  clear h br hB b1 b2 b3 b4
  go_enter Try.func48, Try.ntmps48
  cases hq0 : marker_ReadUint.f k l 0 2 with
  | none => have h := H.out; simp [tileRead, hq0] at h
  | some q0 =>
  obtain ⟨x0, y0⟩ := q0
  by_cases hy0 : y0 = 0
  rotate_left
  · have h := H.out
    simp [tileRead, hq0, hy0] at h
    have h' := Aside0.mk h
    clear h
    go_wp2_with (go_at_call 49; (with_reducible refine (reader_uint.calls k ra A c l 0 2 x0 y0 _ R.br (Kd.C_below hC R.below) hc hq0).mono ?_); rintro en w' (⟨hne, _, _⟩ | ⟨_, rfl, hd⟩); exact absurd hne hy0)
    obtain ⟨rfl, -⟩ := h'.out
    exact ⟨rfl, (R.drawn hd).only, .inr ⟨_, rfl, rfl, hy0, ⟨_, drawn_blk hd B1.out⟩, ⟨_, drawn_blk hd B2.out⟩, ⟨_, drawn_blk hd B3.out⟩, ⟨_, drawn_blk hd B4.out⟩⟩⟩
  go_wp2_with (go_at_call 49; ((with_reducible refine (reader_uint.calls k ra A c l 0 2 x0 y0 _ R.br (Kd.C_below hC R.below) hc hq0).mono ?_); rintro en w2 (⟨_, rfl, hd⟩ | ⟨hne, _, _⟩); rotate_left; (exact absurd hy0 hne); have R1 := R.read (p' := 2) l0 (.inr rfl) _ hd (by unfold wrap64; omega); have n1 := Aside0.mk (RS.far B1.out hr1 hd); have n2 := Aside0.mk (RS.far B2.out hr2 hd); have n3 := Aside0.mk (RS.far B3.out hr3 hd); have n4 := Aside0.mk (RS.far B4.out hr4 hd); clear B1 B2 B3 B4 hd; have B1 := n1; have B2 := n2; have B3 := n3; have B4 := n4; clear n1 n2 n3 n4; have hcg : w2.cell? ⟨g1, 0, none⟩ = some (.int .i64 0) := (blk_cell B1.out 0).trans rfl; have hzg := blk_frozen B1.out 0))
  clear hcg hzg
  replace R1 := R1.store l1 (.inl (.inl rfl)) hr1 0 (.int .i64 x0)
  replace B1 := Aside0.mk (blk_put (cs' := #[.int .i64 x0]) B1.out 0 (.int .i64 x0) rfl)
  replace B2 := Aside0.mk (blk_far B2.out (p := ⟨g1, 0, none⟩) (Ne.symm d12) (.int .i64 x0))
  replace B3 := Aside0.mk (blk_far B3.out (p := ⟨g1, 0, none⟩) (Ne.symm d13) (.int .i64 x0))
  replace B4 := Aside0.mk (blk_far B4.out (p := ⟨g1, 0, none⟩) (Ne.symm d14) (.int .i64 x0))
  cases hq1 : marker_ReadUint.f k l 2 1 with
  | none => have h := H.out; simp [tileRead, hq0, hy0, hq1] at h
  | some q1 =>
  obtain ⟨x1, y1⟩ := q1
  by_cases hy1 : y1 = 0
  rotate_left
  · have h := H.out
    simp [tileRead, hq0, hy0, hq1, hy1] at h
    have h' := Aside0.mk h
    clear h
    go_wp2_with (go_at_call 49; (with_reducible refine (reader_uint.calls k ra A c l 2 1 x1 y1 _ R1.br (Kd.C_below hC R1.below) hc hq1).mono ?_); rintro en w' (⟨hne, _, _⟩ | ⟨_, rfl, hd⟩); exact absurd hne hy1)
    obtain ⟨rfl, -⟩ := h'.out
    exact ⟨rfl, (R1.drawn hd).only, .inr ⟨_, rfl, rfl, hy1, ⟨_, drawn_blk hd B1.out⟩, ⟨_, drawn_blk hd B2.out⟩, ⟨_, drawn_blk hd B3.out⟩, ⟨_, drawn_blk hd B4.out⟩⟩⟩
  go_wp2_with (go_at_call 49; ((with_reducible refine (reader_uint.calls k ra A c l 2 1 x1 y1 _ R1.br (Kd.C_below hC R1.below) hc hq1).mono ?_); rintro en w3 (⟨_, rfl, hd⟩ | ⟨hne, _, _⟩); rotate_left; (exact absurd hy1 hne); have R2 := R1.read (p' := 3) l0 (.inr rfl) _ hd (by unfold wrap64; omega); have n1 := Aside0.mk (RS.far B1.out hr1 hd); have n2 := Aside0.mk (RS.far B2.out hr2 hd); have n3 := Aside0.mk (RS.far B3.out hr3 hd); have n4 := Aside0.mk (RS.far B4.out hr4 hd); clear B1 B2 B3 B4 hd; have B1 := n1; have B2 := n2; have B3 := n3; have B4 := n4; clear n1 n2 n3 n4; have hcg : w3.cell? ⟨g2, 0, none⟩ = some (.int .i64 0) := (blk_cell B2.out 0).trans rfl; have hzg := blk_frozen B2.out 0))
  clear hcg hzg
  replace R2 := R2.store l2 (.inl (.inr (.inl rfl))) hr2 0 (.int .i64 x1)
  replace B1 := Aside0.mk (blk_far B1.out (p := ⟨g2, 0, none⟩) d12 (.int .i64 x1))
  replace B2 := Aside0.mk (blk_put (cs' := #[.int .i64 x1]) B2.out 0 (.int .i64 x1) rfl)
  replace B3 := Aside0.mk (blk_far B3.out (p := ⟨g2, 0, none⟩) (Ne.symm d23) (.int .i64 x1))
  replace B4 := Aside0.mk (blk_far B4.out (p := ⟨g2, 0, none⟩) (Ne.symm d24) (.int .i64 x1))
  cases hq2 : marker_ReadUint.f k l 3 1 with
  | none => have h := H.out; simp [tileRead, hq0, hy0, hq1, hy1, hq2] at h
  | some q2 =>
  obtain ⟨x2, y2⟩ := q2
  by_cases hy2 : y2 = 0
  rotate_left
  · have h := H.out
    simp [tileRead, hq0, hy0, hq1, hy1, hq2, hy2] at h
    have h' := Aside0.mk h
    clear h
    go_wp2_with (go_at_call 49; (with_reducible refine (reader_uint.calls k ra A c l 3 1 x2 y2 _ R2.br (Kd.C_below hC R2.below) hc hq2).mono ?_); rintro en w' (⟨hne, _, _⟩ | ⟨_, rfl, hd⟩); exact absurd hne hy2)
    obtain ⟨rfl, -⟩ := h'.out
    exact ⟨rfl, (R2.drawn hd).only, .inr ⟨_, rfl, rfl, hy2, ⟨_, drawn_blk hd B1.out⟩, ⟨_, drawn_blk hd B2.out⟩, ⟨_, drawn_blk hd B3.out⟩, ⟨_, drawn_blk hd B4.out⟩⟩⟩
  go_wp2_with (go_at_call 49; ((with_reducible refine (reader_uint.calls k ra A c l 3 1 x2 y2 _ R2.br (Kd.C_below hC R2.below) hc hq2).mono ?_); rintro en w4 (⟨_, rfl, hd⟩ | ⟨hne, _, _⟩); rotate_left; (exact absurd hy2 hne); have R3 := R2.read (p' := 4) l0 (.inr rfl) _ hd (by unfold wrap64; omega); have n1 := Aside0.mk (RS.far B1.out hr1 hd); have n2 := Aside0.mk (RS.far B2.out hr2 hd); have n3 := Aside0.mk (RS.far B3.out hr3 hd); have n4 := Aside0.mk (RS.far B4.out hr4 hd); clear B1 B2 B3 B4 hd; have B1 := n1; have B2 := n2; have B3 := n3; have B4 := n4; clear n1 n2 n3 n4; have hcg : w4.cell? ⟨g3, 0, none⟩ = some (.int .i64 0) := (blk_cell B3.out 0).trans rfl; have hzg := blk_frozen B3.out 0))
  clear hcg hzg
  replace R3 := R3.store l3 (.inl (.inr (.inr (.inl rfl)))) hr3 0 (.int .i64 x2)
  replace B1 := Aside0.mk (blk_far B1.out (p := ⟨g3, 0, none⟩) d13 (.int .i64 x2))
  replace B2 := Aside0.mk (blk_far B2.out (p := ⟨g3, 0, none⟩) d23 (.int .i64 x2))
  replace B3 := Aside0.mk (blk_put (cs' := #[.int .i64 x2]) B3.out 0 (.int .i64 x2) rfl)
  replace B4 := Aside0.mk (blk_far B4.out (p := ⟨g3, 0, none⟩) (Ne.symm d34) (.int .i64 x2))
  cases hq3 : marker_ReadUint.f k l 4 4 with
  | none => have h := H.out; simp [tileRead, hq0, hy0, hq1, hy1, hq2, hy2, hq3] at h
  | some q3 =>
  obtain ⟨x3, y3⟩ := q3
  by_cases hy3 : y3 = 0
  rotate_left
  · have h := H.out
    simp [tileRead, hq0, hy0, hq1, hy1, hq2, hy2, hq3, hy3] at h
    have h' := Aside0.mk h
    clear h
    go_wp2_with (go_at_call 49; (with_reducible refine (reader_uint.calls k ra A c l 4 4 x3 y3 _ R3.br (Kd.C_below hC R3.below) hc hq3).mono ?_); rintro en w' (⟨hne, _, _⟩ | ⟨_, rfl, hd⟩); exact absurd hne hy3)
    obtain ⟨rfl, -⟩ := h'.out
    exact ⟨rfl, (R3.drawn hd).only, .inr ⟨_, rfl, rfl, hy3, ⟨_, drawn_blk hd B1.out⟩, ⟨_, drawn_blk hd B2.out⟩, ⟨_, drawn_blk hd B3.out⟩, ⟨_, drawn_blk hd B4.out⟩⟩⟩
  go_wp2_with (go_at_call 49; ((with_reducible refine (reader_uint.calls k ra A c l 4 4 x3 y3 _ R3.br (Kd.C_below hC R3.below) hc hq3).mono ?_); rintro en w5 (⟨_, rfl, hd⟩ | ⟨hne, _, _⟩); rotate_left; (exact absurd hy3 hne); have R4 := R3.read (p' := 8) l0 (.inr rfl) _ hd (by unfold wrap64; omega); have n1 := Aside0.mk (RS.far B1.out hr1 hd); have n2 := Aside0.mk (RS.far B2.out hr2 hd); have n3 := Aside0.mk (RS.far B3.out hr3 hd); have n4 := Aside0.mk (RS.far B4.out hr4 hd); clear B1 B2 B3 B4 hd; have B1 := n1; have B2 := n2; have B3 := n3; have B4 := n4; clear n1 n2 n3 n4; have hcg : w5.cell? ⟨g4, 0, none⟩ = some (.int .i64 0) := (blk_cell B4.out 0).trans rfl; have hzg := blk_frozen B4.out 0))
  clear hcg hzg
  replace R4 := R4.store l4 (.inl (.inr (.inr (.inr rfl)))) hr4 0 (.int .i64 x3)
  replace B1 := Aside0.mk (blk_far B1.out (p := ⟨g4, 0, none⟩) d14 (.int .i64 x3))
  replace B2 := Aside0.mk (blk_far B2.out (p := ⟨g4, 0, none⟩) d24 (.int .i64 x3))
  replace B3 := Aside0.mk (blk_far B3.out (p := ⟨g4, 0, none⟩) d34 (.int .i64 x3))
  replace B4 := Aside0.mk (blk_put (cs' := #[.int .i64 x3]) B4.out 0 (.int .i64 x3) rfl)
  go_end0
  have h := H.out
  simp [tileRead, hq0, hq1, hq2, hq3, hy0, hy1, hy2, hy3] at h
  obtain ⟨rfl, rfl, rfl, rfl, rfl⟩ := h
  exact ⟨R4.only, .inl ⟨_, rfl, R4.br, rfl, rfl, B1.out, B2.out, B3.out, B4.out⟩⟩

theorem tileRead.mono (k : Nat) (l : List Int) : LeO (tileRead k l) (tileRead (k + 1) l) := by
  unfold tileRead
  repeat' first
    | (with_reducible exact marker_ReadUint.mono _ _ _ _)
    | (with_reducible exact LeO.refl _)
    | (with_reducible refine LeO.ite ?_ ?_)
    | (with_reducible refine LeO.bind ?_ (fun _ => ?_))
def headseg_ParseTile.f (k : Nat) (a0_0 : Int) (l0_1 : List Int) : Option (Int × Int × Int × Int × Int) :=
  (tileRead k l0_1).bind fun t => some (if a0_0 = 65456 then (if t.1 = 0 then (if (8 : Int) < (l0_1.length : Int) then (0, 0, 0, 0, 9) else (t.2.1, t.2.2.1, t.2.2.2.1, t.2.2.2.2, 0)) else (0, 0, 0, 0, t.1)) else (0, 0, 0, 0, 11))
theorem headseg_ParseTile.mono : ∀ a0 a1 k, LeO (headseg_ParseTile.f k a0 a1) (headseg_ParseTile.f (k + 1) a0 a1) := by
  intro a0 a1 k
  exact LeO.bind (tileRead.mono k a1) (fun _ => LeO.refl _)

set_option maxHeartbeats 8000000 in
set_option maxRecDepth 100000 in
theorem headseg_ParseTile.calls (k : Nat) (a0_0 : Int) (A0_1 : Option Addr) (c0_1 : Nat) (l0_1 : List Int) (r1 : Int) (r2 : Int) (r3 : Int) (r4 : Int) (r5 : Int) (w : World) (hr0_1 : Kd.C (Kd.int .u8) w A0_1 l0_1.length l0_1) (hc0_1 : l0_1.length ≤ c0_1) (h : headseg_ParseTile.f k a0_0 l0_1 = some (r1, r2, r3, r4, r5)) :
    Calls Try.prog 20 #[.agg #[.int .i64 a0_0, .slice A0_1 l0_1.length c0_1]] w fun e w' => e = .returned (.tuple #[.int .i64 r1, .int .i64 r2, .int .i64 r3, .int .i64 r4, .int .i64 r5]) ∧ Below w.heap.size w w' := by
  cases ht : tileRead k l0_1 with
  | none => simp [headseg_ParseTile.f, ht] at h
  | some t =>
  obtain ⟨e, v1, v2, v3, v4⟩ := t
  simp only [headseg_ParseTile.f, ht, Option.bind_some, Option.some.injEq] at h
  have H := Aside0.mk h
  have HT := Aside0.mk ht
  have HR := Aside0.mk hr0_1
  have HC := Aside0.mk hc0_1
  clear h ht hr0_1 hc0_1
  have hmf : ∀ (fn : Fn) (first cap : Array Value) (w : World), (Instr.makeFunc fn first cap).run Try.prog w = .ok (.func fn first cap) w := fun _ _ _ _ => rfl
  go_enter Try.func20, Try.ntmps20
  go_wp2_with (go_at_call 47; fail)
  generalize hW : ((((w.alloc (Obj.cells #[Value.int IntKind.i64 a0_0, Value.slice A0_1 l0_1.length c0_1] 26)).alloc (Obj.cells #[Value.int IntKind.i64 0] 3)).alloc (Obj.cells #[Value.int IntKind.i64 0] 3)).alloc (Obj.cells #[Value.int IntKind.i64 0] 3)).alloc (Obj.cells #[Value.int IntKind.i64 0] 3) = W0
  have hsz : W0.heap.size = w.heap.size + 5 := by rw [← hW]; simp
  have HB : Below w.heap.size w W0 := by rw [← hW]; exact below_alloc (below_alloc (below_alloc (below_alloc (below_alloc (Below.refl _ _) _) _) _) _) _
  generalize h4 : w.heap.size + 1 + 1 + 1 + 1 = g4
  generalize h3 : w.heap.size + 1 + 1 + 1 = g3
  generalize h2 : w.heap.size + 1 + 1 = g2
  generalize h1 : w.heap.size + 1 = g1
  have nb : ∀ (V : World) (g : Nat), V.heap.size = g → (V.alloc (Obj.cells #[Value.int IntKind.i64 0] 3)).heap[g]? = some (.cells #[.int .i64 0] 3 (0, 0)) := fun V g h => h ▸ blk_new V _
  have b1 : W0.heap[g1]? = some (.cells #[.int .i64 0] 3 (0, 0)) := by rw [← hW]; exact blk_alloc (blk_alloc (blk_alloc (nb _ g1 (by simp; omega)) _) _) _
  have b2 : W0.heap[g2]? = some (.cells #[.int .i64 0] 3 (0, 0)) := by rw [← hW]; exact blk_alloc (blk_alloc (nb _ g2 (by simp; omega)) _) _
  have b3 : W0.heap[g3]? = some (.cells #[.int .i64 0] 3 (0, 0)) := by rw [← hW]; exact blk_alloc (nb _ g3 (by simp; omega)) _
  have b4 : W0.heap[g4]? = some (.cells #[.int .i64 0] 3 (0, 0)) := by rw [← hW]; exact nb _ g4 (by simp; omega)
  clear hW nb
  have keep : ∀ {w1 w2 : World} {g : Nat} {x : Int}, g < W0.heap.size → w1.heap[g]? = some (.cells #[.int .i64 x] 3 (0, 0)) → Only (fun k => W0.heap.size ≤ k) w1 w2 → w2.heap[g]? = some (.cells #[.int .i64 x] 3 (0, 0)) := fun hg hb ho => ho.blk hb (by omega)
  have keepH : ∀ {w1 w2 : World} {g : Nat}, g < W0.heap.size → HasInt w1 g → Only (fun k => W0.heap.size ≤ k) w1 w2 → HasInt w2 g := fun hg ⟨x, hb⟩ ho => ⟨x, keep hg hb ho⟩
  refine (parse.calls 48 (fun _ _ => by simp [go_sem]) #[.pointer (some ⟨g1, 0, none⟩), .pointer (some ⟨g2, 0, none⟩), .pointer (some ⟨g3, 0, none⟩), .pointer (some ⟨g4, 0, none⟩)] (fun ra => #[.pointer (some ⟨ra, 0, none⟩), .pointer (some ⟨g1, 0, none⟩), .pointer (some ⟨g2, 0, none⟩), .pointer (some ⟨g3, 0, none⟩), .pointer (some ⟨g4, 0, none⟩)]) (fun _ => by simp) (fun k => k = g1 ∨ k = g2 ∨ k = g3 ∨ k = g4) a0_0 65456 A0_1 c0_1 l0_1 W0 (Kd.C_below HR.out HB) HC.out
    (fun p w2 => e = 0 ∧ p = 8 ∧ w2.heap[g1]? = some (.cells #[.int .i64 v1] 3 (0, 0)) ∧ w2.heap[g2]? = some (.cells #[.int .i64 v2] 3 (0, 0)) ∧ w2.heap[g3]? = some (.cells #[.int .i64 v3] 3 (0, 0)) ∧ w2.heap[g4]? = some (.cells #[.int .i64 v4] 3 (0, 0)))
    (fun e' w2 => e' = e ∧ e ≠ 0 ∧ HasInt w2 g1 ∧ HasInt w2 g2 ∧ HasInt w2 g3 ∧ HasInt w2 g4) (fun k hk => by omega) ?ok ?err ?cl).mono ?_
  case ok => exact fun p u1 u2 ⟨q1, q2, q3, q4, q5, q6⟩ ho => ⟨q1, q2, keep (by omega) q3 ho, keep (by omega) q4 ho, keep (by omega) q5 ho, keep (by omega) q6 ho⟩
  case err => exact fun p u1 u2 ⟨q1, q2, q3, q4, q5, q6⟩ ho => ⟨q1, q2, keepH (by omega) q3 ho, keepH (by omega) q4 ho, keepH (by omega) q5 ho, keepH (by omega) q6 ho⟩
  case cl => exact fun w1 ra hb1 hra hbr => tile_closure k w w1 A0_1 c0_1 l0_1 HR.out HC.out ra g1 g2 g3 g4 (by omega) (by omega) (by omega) (by omega) (by omega) (by omega) (by omega) (by omega) (by omega) (by omega) (by omega) (by omega) (by omega) (by omega) (by omega) (HB.trans (hb1.mono (by omega))) hbr (by rw [hb1.block g1 (by omega)]; exact b1) (by rw [hb1.block g2 (by omega)]; exact b2) (by rw [hb1.block g3 (by omega)]; exact b3) (by rw [hb1.block g4 (by omega)]; exact b4) e v1 v2 v3 v4 HT.out
  rintro en w2 ⟨y, rfl, ho, hcase⟩
  have HB2 : Below w.heap.size w w2 := HB.trans (ho.below (by omega) (by omega))
  have hcase' : (y ≠ 0 ∧ (r1, r2, r3, r4, r5) = (0, 0, 0, 0, y) ∧ HasInt w2 g1 ∧ HasInt w2 g2 ∧ HasInt w2 g3 ∧ HasInt w2 g4) ∨ (y = 0 ∧ (r1, r2, r3, r4, r5) = (v1, v2, v3, v4, 0) ∧ w2.heap[g1]? = some (.cells #[.int .i64 v1] 3 (0, 0)) ∧ w2.heap[g2]? = some (.cells #[.int .i64 v2] 3 (0, 0)) ∧ w2.heap[g3]? = some (.cells #[.int .i64 v3] 3 (0, 0)) ∧ w2.heap[g4]? = some (.cells #[.int .i64 v4] 3 (0, 0))) := by
    have h := H.out
    rcases hcase with ⟨hne, rfl, h11⟩ | ⟨heq, ⟨p, ⟨rfl, rfl, q3, q4, q5, q6⟩, hy⟩ | ⟨rfl, q2, q3, q4, q5, q6⟩⟩
    · rw [if_neg hne] at h
      exact .inl ⟨by decide, h.symm, ⟨_, h11.blk b1 (by simp)⟩, ⟨_, h11.blk b2 (by simp)⟩, ⟨_, h11.blk b3 (by simp)⟩, ⟨_, h11.blk b4 (by simp)⟩⟩
    · rw [if_pos heq, if_pos rfl] at h
      by_cases h8 : (8 : Int) < (l0_1.length : Int)
      · rw [if_pos h8] at h hy
        subst hy
        exact .inl ⟨by decide, h.symm, ⟨_, q3⟩, ⟨_, q4⟩, ⟨_, q5⟩, ⟨_, q6⟩⟩
      · rw [if_neg h8] at h hy
        exact .inr ⟨hy, h.symm, q3, q4, q5, q6⟩
    · rw [if_pos heq, if_neg q2] at h
      exact .inl ⟨q2, h.symm, q3, q4, q5, q6⟩
  clear hcase keep keepH b1 b2 b3 b4 HB ho hsz H HT HR HC
  have n12 : g1 ≠ g2 := by omega
  have n13 : g1 ≠ g3 := by omega
  have n14 : g1 ≠ g4 := by omega
  have n23 : g2 ≠ g3 := by omega
  have n24 : g2 ≠ g4 := by omega
  have n34 : g3 ≠ g4 := by omega
  rcases hcase' with ⟨hy, hr, ⟨x1, b1⟩, ⟨x2, b2⟩, ⟨x3, b3⟩, ⟨x4, b4⟩⟩ | ⟨hy, hr, b1, b2, b3, b4⟩
  · have c1 : w2.cell? ⟨g1, 0, none⟩ = some (.int .i64 x1) := (blk_cell b1 0).trans rfl
    have c2 : w2.cell? ⟨g2, 0, none⟩ = some (.int .i64 x2) := (blk_cell b2 0).trans rfl
    have c3 : w2.cell? ⟨g3, 0, none⟩ = some (.int .i64 x3) := (blk_cell b3 0).trans rfl
    have c4 : w2.cell? ⟨g4, 0, none⟩ = some (.int .i64 x4) := (blk_cell b4 0).trans rfl
    have z1 := blk_frozen b1 0
    have z2 := blk_frozen b2 0
    have z3 := blk_frozen b3 0
    have z4 := blk_frozen b4 0
    have hy' : (y != 0) = true := by simpa using hy
    go_wp2
    have q4 : ((((w2.setCell ⟨g1, 0, none⟩ (.int .i64 0)).setCell ⟨g2, 0, none⟩ (.int .i64 0)).setCell ⟨g3, 0, none⟩ (.int .i64 0)).setCell ⟨g4, 0, none⟩ (.int .i64 0)).cell? ⟨g4, 0, none⟩ = some (.int .i64 0) := (blk_cell (blk_put (blk_far (blk_far (blk_far b4 (p := ⟨g1, 0, none⟩) (Ne.symm n14) _) (p := ⟨g2, 0, none⟩) (Ne.symm n24) _) (p := ⟨g3, 0, none⟩) (Ne.symm n34) _) 0 (.int .i64 0) rfl) 0).trans rfl
    have q3 : ((((w2.setCell ⟨g1, 0, none⟩ (.int .i64 0)).setCell ⟨g2, 0, none⟩ (.int .i64 0)).setCell ⟨g3, 0, none⟩ (.int .i64 0)).setCell ⟨g4, 0, none⟩ (.int .i64 0)).cell? ⟨g3, 0, none⟩ = some (.int .i64 0) := (blk_cell (blk_far (blk_put (blk_far (blk_far b3 (p := ⟨g1, 0, none⟩) (Ne.symm n13) _) (p := ⟨g2, 0, none⟩) (Ne.symm n23) _) 0 (.int .i64 0) rfl) (p := ⟨g4, 0, none⟩) n34 _) 0).trans rfl
    have q2 : ((((w2.setCell ⟨g1, 0, none⟩ (.int .i64 0)).setCell ⟨g2, 0, none⟩ (.int .i64 0)).setCell ⟨g3, 0, none⟩ (.int .i64 0)).setCell ⟨g4, 0, none⟩ (.int .i64 0)).cell? ⟨g2, 0, none⟩ = some (.int .i64 0) := (blk_cell (blk_far (blk_far (blk_put (blk_far b2 (p := ⟨g1, 0, none⟩) (Ne.symm n12) _) 0 (.int .i64 0) rfl) (p := ⟨g3, 0, none⟩) n23 _) (p := ⟨g4, 0, none⟩) n24 _) 0).trans rfl
    have q1 : ((((w2.setCell ⟨g1, 0, none⟩ (.int .i64 0)).setCell ⟨g2, 0, none⟩ (.int .i64 0)).setCell ⟨g3, 0, none⟩ (.int .i64 0)).setCell ⟨g4, 0, none⟩ (.int .i64 0)).cell? ⟨g1, 0, none⟩ = some (.int .i64 0) := (blk_cell (blk_far (blk_far (blk_far (blk_put b1 0 (.int .i64 0) rfl) (p := ⟨g2, 0, none⟩) n12 _) (p := ⟨g3, 0, none⟩) n13 _) (p := ⟨g4, 0, none⟩) n14 _) 0).trans rfl
    have HB3 : Below w.heap.size w ((((w2.setCell ⟨g1, 0, none⟩ (.int .i64 0)).setCell ⟨g2, 0, none⟩ (.int .i64 0)).setCell ⟨g3, 0, none⟩ (.int .i64 0)).setCell ⟨g4, 0, none⟩ (.int .i64 0)) := (((HB2.setCell (p := ⟨g1, 0, none⟩) (by show _ ≤ g1; omega) _).setCell (p := ⟨g2, 0, none⟩) (by show _ ≤ g2; omega) _).setCell (p := ⟨g3, 0, none⟩) (by show _ ≤ g3; omega) _).setCell (p := ⟨g4, 0, none⟩) (by show _ ≤ g4; omega) _
    simp only [Prod.mk.injEq] at hr
    obtain ⟨rfl, rfl, rfl, rfl, rfl⟩ := hr
    exact bodyPost_ret (v := .tuple #[.int .i64 0, .int .i64 0, .int .i64 0, .int .i64 0, .int .i64 r5]) (by simp [results, Try.results20, go_sem, q1, q2, q3, q4]) rfl ⟨rfl, HB3⟩
  · have c1 : w2.cell? ⟨g1, 0, none⟩ = some (.int .i64 v1) := (blk_cell b1 0).trans rfl
    have c2 : w2.cell? ⟨g2, 0, none⟩ = some (.int .i64 v2) := (blk_cell b2 0).trans rfl
    have c3 : w2.cell? ⟨g3, 0, none⟩ = some (.int .i64 v3) := (blk_cell b3 0).trans rfl
    have c4 : w2.cell? ⟨g4, 0, none⟩ = some (.int .i64 v4) := (blk_cell b4 0).trans rfl
    have z1 := blk_frozen b1 0
    have z2 := blk_frozen b2 0
    have z3 := blk_frozen b3 0
    have z4 := blk_frozen b4 0
    subst hy
    go_wp2
    go_region
    go_wp2
    have q1 : (((((w2.setCell ⟨g1, 0, none⟩ (.int .i64 v1)).setCell ⟨g2, 0, none⟩ (.int .i64 v2)).setCell ⟨g3, 0, none⟩ (.int .i64 v3)).setCell ⟨g4, 0, none⟩ (.int .i64 v4)).drew).cell? ⟨g1, 0, none⟩ = some (.int .i64 v1) := (blk_cell (blk_drew (blk_far (blk_far (blk_far (blk_put b1 0 (.int .i64 v1) rfl) (p := ⟨g2, 0, none⟩) n12 _) (p := ⟨g3, 0, none⟩) n13 _) (p := ⟨g4, 0, none⟩) n14 _)) 0).trans rfl
    have q2 : (((((w2.setCell ⟨g1, 0, none⟩ (.int .i64 v1)).setCell ⟨g2, 0, none⟩ (.int .i64 v2)).setCell ⟨g3, 0, none⟩ (.int .i64 v3)).setCell ⟨g4, 0, none⟩ (.int .i64 v4)).drew).cell? ⟨g2, 0, none⟩ = some (.int .i64 v2) := (blk_cell (blk_drew (blk_far (blk_far (blk_put (blk_far b2 (p := ⟨g1, 0, none⟩) (Ne.symm n12) _) 0 (.int .i64 v2) rfl) (p := ⟨g3, 0, none⟩) n23 _) (p := ⟨g4, 0, none⟩) n24 _)) 0).trans rfl
    have q3 : (((((w2.setCell ⟨g1, 0, none⟩ (.int .i64 v1)).setCell ⟨g2, 0, none⟩ (.int .i64 v2)).setCell ⟨g3, 0, none⟩ (.int .i64 v3)).setCell ⟨g4, 0, none⟩ (.int .i64 v4)).drew).cell? ⟨g3, 0, none⟩ = some (.int .i64 v3) := (blk_cell (blk_drew (blk_far (blk_put (blk_far (blk_far b3 (p := ⟨g1, 0, none⟩) (Ne.symm n13) _) (p := ⟨g2, 0, none⟩) (Ne.symm n23) _) 0 (.int .i64 v3) rfl) (p := ⟨g4, 0, none⟩) n34 _)) 0).trans rfl
    have q4 : (((((w2.setCell ⟨g1, 0, none⟩ (.int .i64 v1)).setCell ⟨g2, 0, none⟩ (.int .i64 v2)).setCell ⟨g3, 0, none⟩ (.int .i64 v3)).setCell ⟨g4, 0, none⟩ (.int .i64 v4)).drew).cell? ⟨g4, 0, none⟩ = some (.int .i64 v4) := (blk_cell (blk_drew (blk_put (blk_far (blk_far (blk_far b4 (p := ⟨g1, 0, none⟩) (Ne.symm n14) _) (p := ⟨g2, 0, none⟩) (Ne.symm n24) _) (p := ⟨g3, 0, none⟩) (Ne.symm n34) _) 0 (.int .i64 v4) rfl)) 0).trans rfl
    have HB3 : Below w.heap.size w (((((w2.setCell ⟨g1, 0, none⟩ (.int .i64 v1)).setCell ⟨g2, 0, none⟩ (.int .i64 v2)).setCell ⟨g3, 0, none⟩ (.int .i64 v3)).setCell ⟨g4, 0, none⟩ (.int .i64 v4)).drew) := ((((HB2.setCell (p := ⟨g1, 0, none⟩) (by show _ ≤ g1; omega) _).setCell (p := ⟨g2, 0, none⟩) (by show _ ≤ g2; omega) _).setCell (p := ⟨g3, 0, none⟩) (by show _ ≤ g3; omega) _).setCell (p := ⟨g4, 0, none⟩) (by show _ ≤ g4; omega) _).drew
    simp only [Prod.mk.injEq] at hr
    obtain ⟨rfl, rfl, rfl, rfl, rfl⟩ := hr
    exact bodyPost_ret (v := .tuple #[.int .i64 r1, .int .i64 r2, .int .i64 r3, .int .i64 r4, .int .i64 0]) (by simp [results, Try.results20, go_sem, q1, q2, q3, q4]) rfl ⟨rfl, HB3⟩
end Go.Proofs.Ytihfopblmjgfaaa.Q
