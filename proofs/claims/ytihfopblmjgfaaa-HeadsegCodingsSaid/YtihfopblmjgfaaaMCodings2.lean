/- Texts of this session (words and printed walks, merged by wip/tools/merge.py) for the statement of the claim. -/
import Derived.Test.YtihfopblmjgfaaaMCodings1
/- ParseTile: the closure that reads a tile-part's numbers, and the function. Printed by wip/tools/genTile.py of this session. -/
namespace Go.Proofs.Ytihfopblmjgfaaa.Q
open Go.RowKit Go.Proofs.YtihfopblmjgfaaaW.PrintWords Go.Proofs.YtihfopblmjgfaaaW.PrintLast Go.Proofs.YtihfopblmjgfaaaW.PrintMore
set_option linter.unusedVariables false
set_option linter.unusedSimpArgs false

/-- A block of one number. -/
def HasInt (w : World) (g : Nat) : Prop := ∃ x, w.heap[g]? = some (.cells #[.int .i64 x] 3 (0, 0))

/-- What the closure leaves: the error (0: none), the four numbers. -/
def tileRead (k : Nat) (l : List Int) : Option (Int × Int × Int × Int × Int) :=
  (marker_ReadUint.f k l 0 2).bind fun q0 => if q0.2 = 0 then (marker_ReadUint.f k l 2 1).bind fun q1 => if q1.2 = 0 then (marker_ReadUint.f k l 3 1).bind fun q2 => if q2.2 = 0 then (marker_ReadUint.f k l 4 4).bind fun q3 => if q3.2 = 0 then some (0, q0.1, q1.1, q2.1, q3.1) else some (q3.2, 0, 0, 0, 0) else some (q2.2, 0, 0, 0, 0) else some (q1.2, 0, 0, 0, 0) else some (q0.2, 0, 0, 0, 0)

set_option maxHeartbeats 8000000 in
set_option maxRecDepth 100000 in
theorem tile_closure (k : Nat) (wb w1 : World) (A : Option Addr) (c : Nat) (l : List Int) (hC : Kd.C (Kd.int .u8) wb A l.length l) (hc : l.length ≤ c) (ra g1 g2 g3 g4 : Nat)
    (d12 : g1 ≠ g2) (d13 : g1 ≠ g3) (d14 : g1 ≠ g4) (d23 : g2 ≠ g3) (d24 : g2 ≠ g4) (d34 : g3 ≠ g4) (hr1 : g1 ≠ ra) (hr2 : g2 ≠ ra) (hr3 : g3 ≠ ra) (hr4 : g4 ≠ ra) (l0 : wb.heap.size ≤ ra) (l1 : wb.heap.size ≤ g1) (l2 : wb.heap.size ≤ g2) (l3 : wb.heap.size ≤ g3) (l4 : wb.heap.size ≤ g4)
    (hB : Below wb.heap.size wb w1) (br : w1.heap[ra]? = some (.cells #[.slice A l.length c, .int .i64 0] 102 (0, 0))) (b1 : w1.heap[g1]? = some (.cells #[.int .i64 0] 3 (0, 0))) (b2 : w1.heap[g2]? = some (.cells #[.int .i64 0] 3 (0, 0))) (b3 : w1.heap[g3]? = some (.cells #[.int .i64 0] 3 (0, 0))) (b4 : w1.heap[g4]? = some (.cells #[.int .i64 0] 3 (0, 0)))
    (e v1 v2 v3 v4 : Int) (h : tileRead k l = some (e, v1, v2, v3, v4)) :
    Calls Try.prog 48 #[.pointer (some ⟨ra, 0, none⟩), .pointer (some ⟨g1, 0, none⟩), .pointer (some ⟨g2, 0, none⟩), .pointer (some ⟨g3, 0, none⟩), .pointer (some ⟨g4, 0, none⟩)] w1 fun en w2 => Only (fun k => (k = g1 ∨ k = g2 ∨ k = g3 ∨ k = g4) ∨ k = ra) w1 w2 ∧
      ((∃ p, en = .returned (.tuple #[]) ∧ w2.heap[ra]? = some (.cells #[.slice A l.length c, .int .i64 p] 102 (0, 0)) ∧ (e = 0 ∧ p = 8 ∧ w2.heap[g1]? = some (.cells #[.int .i64 v1] 3 (0, 0)) ∧ w2.heap[g2]? = some (.cells #[.int .i64 v2] 3 (0, 0)) ∧ w2.heap[g3]? = some (.cells #[.int .i64 v3] 3 (0, 0)) ∧ w2.heap[g4]? = some (.cells #[.int .i64 v4] 3 (0, 0)))) ∨
        ∃ e', en = .panicked [{ v := .iface 99 (.agg #[.int .i64 e']), recovered := false }] ∧ (e' = e ∧ e ≠ 0 ∧ HasInt w2 g1 ∧ HasInt w2 g2 ∧ HasInt w2 g3 ∧ HasInt w2 g4)) := by
  have H := Aside0.mk h
  have R := RS.mk (S := fun k => (k = g1 ∨ k = g2 ∨ k = g3 ∨ k = g4) ∨ k = ra) br hB (Only.refl _ w1)
  have B1 := Aside0.mk b1
  have B2 := Aside0.mk b2
  have B3 := Aside0.mk b3
  have B4 := Aside0.mk b4
  clear h br hB b1 b2 b3 b4
  go_enter Try.func48, Try.ntmps48
  cases hq0 : marker_ReadUint.f k l 0 2 with
  | none => have h := H.out; simp [tileRead, hq0] at h
  | some q0 =>
  obtain ⟨x0, y0⟩ := q0
  by_cases hy0 : y0 = 0
  rotate_left
  · have h := H.out
    simp [tileRead, hq0, hy0] at h
    have h' := Aside0.mk h
    clear h
    go_wp2_with (go_at_call 49; (with_reducible refine (reader_uint.calls k ra A c l 0 2 x0 y0 _ R.br (Kd.C_below hC R.below) hc hq0).mono ?_); rintro en w' (⟨hne, _, _⟩ | ⟨_, rfl, hd⟩); exact absurd hne hy0)
    obtain ⟨rfl, -⟩ := h'.out
    exact ⟨rfl, (R.drawn hd).only, .inr ⟨_, rfl, rfl, hy0, ⟨_, drawn_blk hd B1.out⟩, ⟨_, drawn_blk hd B2.out⟩, ⟨_, drawn_blk hd B3.out⟩, ⟨_, drawn_blk hd B4.out⟩⟩⟩
  go_wp2_with (go_at_call 49; ((with_reducible refine (reader_uint.calls k ra A c l 0 2 x0 y0 _ R.br (Kd.C_below hC R.below) hc hq0).mono ?_); rintro en w2 (⟨_, rfl, hd⟩ | ⟨hne, _, _⟩); rotate_left; (exact absurd hy0 hne); have R1 := R.read (p' := 2) l0 (.inr rfl) _ hd (by unfold wrap64; omega); have n1 := Aside0.mk (RS.far B1.out hr1 hd); have n2 := Aside0.mk (RS.far B2.out hr2 hd); have n3 := Aside0.mk (RS.far B3.out hr3 hd); have n4 := Aside0.mk (RS.far B4.out hr4 hd); clear B1 B2 B3 B4 hd; have B1 := n1; have B2 := n2; have B3 := n3; have B4 := n4; clear n1 n2 n3 n4; have hcg : w2.cell? ⟨g1, 0, none⟩ = some (.int .i64 0) := (blk_cell B1.out 0).trans rfl; have hzg := blk_frozen B1.out 0))
  clear hcg hzg
  replace R1 := R1.store l1 (.inl (.inl rfl)) hr1 0 (.int .i64 x0)
  replace B1 := Aside0.mk (blk_put (cs' := #[.int .i64 x0]) B1.out 0 (.int .i64 x0) rfl)
  replace B2 := Aside0.mk (blk_far B2.out (p := ⟨g1, 0, none⟩) (Ne.symm d12) (.int .i64 x0))
  replace B3 := Aside0.mk (blk_far B3.out (p := ⟨g1, 0, none⟩) (Ne.symm d13) (.int .i64 x0))
  replace B4 := Aside0.mk (blk_far B4.out (p := ⟨g1, 0, none⟩) (Ne.symm d14) (.int .i64 x0))
  cases hq1 : marker_ReadUint.f k l 2 1 with
  | none => have h := H.out; simp [tileRead, hq0, hy0, hq1] at h
  | some q1 =>
  obtain ⟨x1, y1⟩ := q1
  by_cases hy1 : y1 = 0
  rotate_left
  · have h := H.out
    simp [tileRead, hq0, hy0, hq1, hy1] at h
    have h' := Aside0.mk h
    clear h
    go_wp2_with (go_at_call 49; (with_reducible refine (reader_uint.calls k ra A c l 2 1 x1 y1 _ R1.br (Kd.C_below hC R1.below) hc hq1).mono ?_); rintro en w' (⟨hne, _, _⟩ | ⟨_, rfl, hd⟩); exact absurd hne hy1)
    obtain ⟨rfl, -⟩ := h'.out
    exact ⟨rfl, (R1.drawn hd).only, .inr ⟨_, rfl, rfl, hy1, ⟨_, drawn_blk hd B1.out⟩, ⟨_, drawn_blk hd B2.out⟩, ⟨_, drawn_blk hd B3.out⟩, ⟨_, drawn_blk hd B4.out⟩⟩⟩
  go_wp2_with (go_at_call 49; ((with_reducible refine (reader_uint.calls k ra A c l 2 1 x1 y1 _ R1.br (Kd.C_below hC R1.below) hc hq1).mono ?_); rintro en w3 (⟨_, rfl, hd⟩ | ⟨hne, _, _⟩); rotate_left; (exact absurd hy1 hne); have R2 := R1.read (p' := 3) l0 (.inr rfl) _ hd (by unfold wrap64; omega); have n1 := Aside0.mk (RS.far B1.out hr1 hd); have n2 := Aside0.mk (RS.far B2.out hr2 hd); have n3 := Aside0.mk (RS.far B3.out hr3 hd); have n4 := Aside0.mk (RS.far B4.out hr4 hd); clear B1 B2 B3 B4 hd; have B1 := n1; have B2 := n2; have B3 := n3; have B4 := n4; clear n1 n2 n3 n4; have hcg : w3.cell? ⟨g2, 0, none⟩ = some (.int .i64 0) := (blk_cell B2.out 0).trans rfl; have hzg := blk_frozen B2.out 0))
  clear hcg hzg
  replace R2 := R2.store l2 (.inl (.inr (.inl rfl))) hr2 0 (.int .i64 x1)
  replace B1 := Aside0.mk (blk_far B1.out (p := ⟨g2, 0, none⟩) d12 (.int .i64 x1))
  replace B2 := Aside0.mk (blk_put (cs' := #[.int .i64 x1]) B2.out 0 (.int .i64 x1) rfl)
  replace B3 := Aside0.mk (blk_far B3.out (p := ⟨g2, 0, none⟩) (Ne.symm d23) (.int .i64 x1))
  replace B4 := Aside0.mk (blk_far B4.out (p := ⟨g2, 0, none⟩) (Ne.symm d24) (.int .i64 x1))
  cases hq2 : marker_ReadUint.f k l 3 1 with
  | none => have h := H.out; simp [tileRead, hq0, hy0, hq1, hy1, hq2] at h
  | some q2 =>
  obtain ⟨x2, y2⟩ := q2
  by_cases hy2 : y2 = 0
  rotate_left
  · have h := H.out
    simp [tileRead, hq0, hy0, hq1, hy1, hq2, hy2] at h
    have h' := Aside0.mk h
    clear h
    go_wp2_with (go_at_call 49; (with_reducible refine (reader_uint.calls k ra A c l 3 1 x2 y2 _ R2.br (Kd.C_below hC R2.below) hc hq2).mono ?_); rintro en w' (⟨hne, _, _⟩ | ⟨_, rfl, hd⟩); exact absurd hne hy2)
    obtain ⟨rfl, -⟩ := h'.out
    exact ⟨rfl, (R2.drawn hd).only, .inr ⟨_, rfl, rfl, hy2, ⟨_, drawn_blk hd B1.out⟩, ⟨_, drawn_blk hd B2.out⟩, ⟨_, drawn_blk hd B3.out⟩, ⟨_, drawn_blk hd B4.out⟩⟩⟩
  go_wp2_with (go_at_call 49; ((with_reducible refine (reader_uint.calls k ra A c l 3 1 x2 y2 _ R2.br (Kd.C_below hC R2.below) hc hq2).mono ?_); rintro en w4 (⟨_, rfl, hd⟩ | ⟨hne, _, _⟩); rotate_left; (exact absurd hy2 hne); have R3 := R2.read (p' := 4) l0 (.inr rfl) _ hd (by unfold wrap64; omega); have n1 := Aside0.mk (RS.far B1.out hr1 hd); have n2 := Aside0.mk (RS.far B2.out hr2 hd); have n3 := Aside0.mk (RS.far B3.out hr3 hd); have n4 := Aside0.mk (RS.far B4.out hr4 hd); clear B1 B2 B3 B4 hd; have B1 := n1; have B2 := n2; have B3 := n3; have B4 := n4; clear n1 n2 n3 n4; have hcg : w4.cell? ⟨g3, 0, none⟩ = some (.int .i64 0) := (blk_cell B3.out 0).trans rfl; have hzg := blk_frozen B3.out 0))
  clear hcg hzg
  replace R3 := R3.store l3 (.inl (.inr (.inr (.inl rfl)))) hr3 0 (.int .i64 x2)
  replace B1 := Aside0.mk (blk_far B1.out (p := ⟨g3, 0, none⟩) d13 (.int .i64 x2))
  replace B2 := Aside0.mk (blk_far B2.out (p := ⟨g3, 0, none⟩) d23 (.int .i64 x2))
  replace B3 := Aside0.mk (blk_put (cs' := #[.int .i64 x2]) B3.out 0 (.int .i64 x2) rfl)
  replace B4 := Aside0.mk (blk_far B4.out (p := ⟨g3, 0, none⟩) (Ne.symm d34) (.int .i64 x2))
  cases hq3 : marker_ReadUint.f k l 4 4 with
  | none => have h := H.out; simp [tileRead, hq0, hy0, hq1, hy1, hq2, hy2, hq3] at h
  | some q3 =>
  obtain ⟨x3, y3⟩ := q3
  by_cases hy3 : y3 = 0
  rotate_left
  · have h := H.out
    simp [tileRead, hq0, hy0, hq1, hy1, hq2, hy2, hq3, hy3] at h
    have h' := Aside0.mk h
    clear h
    go_wp2_with (go_at_call 49; (with_reducible refine (reader_uint.calls k ra A c l 4 4 x3 y3 _ R3.br (Kd.C_below hC R3.below) hc hq3).mono ?_); rintro en w' (⟨hne, _, _⟩ | ⟨_, rfl, hd⟩); exact absurd hne hy3)
    obtain ⟨rfl, -⟩ := h'.out
    exact ⟨rfl, (R3.drawn hd).only, .inr ⟨_, rfl, rfl, hy3, ⟨_, drawn_blk hd B1.out⟩, ⟨_, drawn_blk hd B2.out⟩, ⟨_, drawn_blk hd B3.out⟩, ⟨_, drawn_blk hd B4.out⟩⟩⟩
  go_wp2_with (go_at_call 49; ((with_reducible refine (reader_uint.calls k ra A c l 4 4 x3 y3 _ R3.br (Kd.C_below hC R3.below) hc hq3).mono ?_); rintro en w5 (⟨_, rfl, hd⟩ | ⟨hne, _, _⟩); rotate_left; (exact absurd hy3 hne); have R4 := R3.read (p' := 8) l0 (.inr rfl) _ hd (by unfold wrap64; omega); have n1 := Aside0.mk (RS.far B1.out hr1 hd); have n2 := Aside0.mk (RS.far B2.out hr2 hd); have n3 := Aside0.mk (RS.far B3.out hr3 hd); have n4 := Aside0.mk (RS.far B4.out hr4 hd); clear B1 B2 B3 B4 hd; have B1 := n1; have B2 := n2; have B3 := n3; have B4 := n4; clear n1 n2 n3 n4; have hcg : w5.cell? ⟨g4, 0, none⟩ = some (.int .i64 0) := (blk_cell B4.out 0).trans rfl; have hzg := blk_frozen B4.out 0))
  clear hcg hzg
  replace R4 := R4.store l4 (.inl (.inr (.inr (.inr rfl)))) hr4 0 (.int .i64 x3)
  replace B1 := Aside0.mk (blk_far B1.out (p := ⟨g4, 0, none⟩) d14 (.int .i64 x3))
  replace B2 := Aside0.mk (blk_far B2.out (p := ⟨g4, 0, none⟩) d24 (.int .i64 x3))
  replace B3 := Aside0.mk (blk_far B3.out (p := ⟨g4, 0, none⟩) d34 (.int .i64 x3))
  replace B4 := Aside0.mk (blk_put (cs' := #[.int .i64 x3]) B4.out 0 (.int .i64 x3) rfl)
  go_end0
  have h := H.out
  simp [tileRead, hq0, hq1, hq2, hq3, hy0, hy1, hy2, hy3] at h
  obtain ⟨rfl, rfl, rfl, rfl, rfl⟩ := h
  exact ⟨R4.only, .inl ⟨_, rfl, R4.br, rfl, rfl, B1.out, B2.out, B3.out, B4.out⟩⟩

theorem tileRead.mono (k : Nat) (l : List Int) : LeO (tileRead k l) (tileRead (k + 1) l) := by
  unfold tileRead
  repeat' first
    | (with_reducible exact marker_ReadUint.mono _ _ _ _)
    | (with_reducible exact LeO.refl _)
    | (with_reducible refine LeO.ite ?_ ?_)
    | (with_reducible refine LeO.bind ?_ (fun _ => ?_))
def headseg_ParseTile.f (k : Nat) (a0_0 : Int) (l0_1 : List Int) : Option (Int × Int × Int × Int × Int) :=
  (tileRead k l0_1).bind fun t => some (if a0_0 = 65456 then (if t.1 = 0 then (if (8 : Int) < (l0_1.length : Int) then (0, 0, 0, 0, 9) else (t.2.1, t.2.2.1, t.2.2.2.1, t.2.2.2.2, 0)) else (0, 0, 0, 0, t.1)) else (0, 0, 0, 0, 11))
theorem headseg_ParseTile.mono : ∀ a0 a1 k, LeO (headseg_ParseTile.f k a0 a1) (headseg_ParseTile.f (k + 1) a0 a1) := by
  intro a0 a1 k
  exact LeO.bind (tileRead.mono k a1) (fun _ => LeO.refl _)

set_option maxHeartbeats 8000000 in
set_option maxRecDepth 100000 in
theorem headseg_ParseTile.calls (k : Nat) (a0_0 : Int) (A0_1 : Option Addr) (c0_1 : Nat) (l0_1 : List Int) (r1 : Int) (r2 : Int) (r3 : Int) (r4 : Int) (r5 : Int) (w : World) (hr0_1 : Kd.C (Kd.int .u8) w A0_1 l0_1.length l0_1) (hc0_1 : l0_1.length ≤ c0_1) (h : headseg_ParseTile.f k a0_0 l0_1 = some (r1, r2, r3, r4, r5)) :
    Calls Try.prog 20 #[.agg #[.int .i64 a0_0, .slice A0_1 l0_1.length c0_1]] w fun e w' => e = .returned (.tuple #[.int .i64 r1, .int .i64 r2, .int .i64 r3, .int .i64 r4, .int .i64 r5]) ∧ Below w.heap.size w w' := by
  cases ht : tileRead k l0_1 with
  | none => simp [headseg_ParseTile.f, ht] at h
  | some t =>
  obtain ⟨e, v1, v2, v3, v4⟩ := t
  simp only [headseg_ParseTile.f, ht, Option.bind_some, Option.some.injEq] at h
  have H := Aside0.mk h
  have HT := Aside0.mk ht
  have HR := Aside0.mk hr0_1
  have HC := Aside0.mk hc0_1
  clear h ht hr0_1 hc0_1
  have hmf : ∀ (fn : Fn) (first cap : Array Value) (w : World), (Instr.makeFunc fn first cap).run Try.prog w = .ok (.func fn first cap) w := fun _ _ _ _ => rfl
  go_enter Try.func20, Try.ntmps20
  go_wp2_with (go_at_call 47; fail)
  generalize hW : ((((w.alloc (Obj.cells #[Value.int IntKind.i64 a0_0, Value.slice A0_1 l0_1.length c0_1] 26)).alloc (Obj.cells #[Value.int IntKind.i64 0] 3)).alloc (Obj.cells #[Value.int IntKind.i64 0] 3)).alloc (Obj.cells #[Value.int IntKind.i64 0] 3)).alloc (Obj.cells #[Value.int IntKind.i64 0] 3) = W0
  have hsz : W0.heap.size = w.heap.size + 5 := by rw [← hW]; simp
  have HB : Below w.heap.size w W0 := by rw [← hW]; exact below_alloc (below_alloc (below_alloc (below_alloc (below_alloc (Below.refl _ _) _) _) _) _) _
  generalize h4 : w.heap.size + 1 + 1 + 1 + 1 = g4
  generalize h3 : w.heap.size + 1 + 1 + 1 = g3
  generalize h2 : w.heap.size + 1 + 1 = g2
  generalize h1 : w.heap.size + 1 = g1
  have nb : ∀ (V : World) (g : Nat), V.heap.size = g → (V.alloc (Obj.cells #[Value.int IntKind.i64 0] 3)).heap[g]? = some (.cells #[.int .i64 0] 3 (0, 0)) := fun V g h => h ▸ blk_new V _
  have b1 : W0.heap[g1]? = some (.cells #[.int .i64 0] 3 (0, 0)) := by rw [← hW]; exact blk_alloc (blk_alloc (blk_alloc (nb _ g1 (by simp; omega)) _) _) _
  have b2 : W0.heap[g2]? = some (.cells #[.int .i64 0] 3 (0, 0)) := by rw [← hW]; exact blk_alloc (blk_alloc (nb _ g2 (by simp; omega)) _) _
  have b3 : W0.heap[g3]? = some (.cells #[.int .i64 0] 3 (0, 0)) := by rw [← hW]; exact blk_alloc (nb _ g3 (by simp; omega)) _
  have b4 : W0.heap[g4]? = some (.cells #[.int .i64 0] 3 (0, 0)) := by rw [← hW]; exact nb _ g4 (by simp; omega)
  clear hW nb
  have keep : ∀ {w1 w2 : World} {g : Nat} {x : Int}, g < W0.heap.size → w1.heap[g]? = some (.cells #[.int .i64 x] 3 (0, 0)) → Only (fun k => k = W0.heap.size + 1) w1 w2 → w2.heap[g]? = some (.cells #[.int .i64 x] 3 (0, 0)) := fun hg hb ho => ho.blk hb (by omega)
  have keepH : ∀ {w1 w2 : World} {g : Nat}, g < W0.heap.size → HasInt w1 g → Only (fun k => k = W0.heap.size + 1) w1 w2 → HasInt w2 g := fun hg ⟨x, hb⟩ ho => ⟨x, keep hg hb ho⟩
  refine (parse.calls 48 (fun _ _ => by simp [go_sem]) #[.pointer (some ⟨g1, 0, none⟩), .pointer (some ⟨g2, 0, none⟩), .pointer (some ⟨g3, 0, none⟩), .pointer (some ⟨g4, 0, none⟩)] (fun ra => #[.pointer (some ⟨ra, 0, none⟩), .pointer (some ⟨g1, 0, none⟩), .pointer (some ⟨g2, 0, none⟩), .pointer (some ⟨g3, 0, none⟩), .pointer (some ⟨g4, 0, none⟩)]) (fun _ => by simp) (fun k => k = g1 ∨ k = g2 ∨ k = g3 ∨ k = g4) a0_0 65456 A0_1 c0_1 l0_1 W0 (Kd.C_below HR.out HB) HC.out
    (fun p w2 => e = 0 ∧ p = 8 ∧ w2.heap[g1]? = some (.cells #[.int .i64 v1] 3 (0, 0)) ∧ w2.heap[g2]? = some (.cells #[.int .i64 v2] 3 (0, 0)) ∧ w2.heap[g3]? = some (.cells #[.int .i64 v3] 3 (0, 0)) ∧ w2.heap[g4]? = some (.cells #[.int .i64 v4] 3 (0, 0)))
    (fun e' w2 => e' = e ∧ e ≠ 0 ∧ HasInt w2 g1 ∧ HasInt w2 g2 ∧ HasInt w2 g3 ∧ HasInt w2 g4) (fun k hk => by omega) ?ok ?err ?cl).mono ?_
  case ok => exact fun p u1 u2 ⟨q1, q2, q3, q4, q5, q6⟩ ho => ⟨q1, q2, keep (by omega) q3 ho, keep (by omega) q4 ho, keep (by omega) q5 ho, keep (by omega) q6 ho⟩
  case err => exact fun p u1 u2 ⟨q1, q2, q3, q4, q5, q6⟩ ho => ⟨q1, q2, keepH (by omega) q3 ho, keepH (by omega) q4 ho, keepH (by omega) q5 ho, keepH (by omega) q6 ho⟩
  case cl => exact fun w1 hb1 hra hbr => tile_closure k w w1 A0_1 c0_1 l0_1 HR.out HC.out (W0.heap.size + 2) g1 g2 g3 g4 (by omega) (by omega) (by omega) (by omega) (by omega) (by omega) (by omega) (by omega) (by omega) (by omega) (by omega) (by omega) (by omega) (by omega) (by omega) (HB.trans (hb1.mono (by omega))) hbr (by rw [hb1.block g1 (by omega)]; exact b1) (by rw [hb1.block g2 (by omega)]; exact b2) (by rw [hb1.block g3 (by omega)]; exact b3) (by rw [hb1.block g4 (by omega)]; exact b4) e v1 v2 v3 v4 HT.out
  rintro en w2 ⟨y, rfl, ho, hcase⟩
  have HB2 : Below w.heap.size w w2 := HB.trans (ho.below (by omega) (by omega))
  have hcase' : (y ≠ 0 ∧ (r1, r2, r3, r4, r5) = (0, 0, 0, 0, y) ∧ HasInt w2 g1 ∧ HasInt w2 g2 ∧ HasInt w2 g3 ∧ HasInt w2 g4) ∨ (y = 0 ∧ (r1, r2, r3, r4, r5) = (v1, v2, v3, v4, 0) ∧ w2.heap[g1]? = some (.cells #[.int .i64 v1] 3 (0, 0)) ∧ w2.heap[g2]? = some (.cells #[.int .i64 v2] 3 (0, 0)) ∧ w2.heap[g3]? = some (.cells #[.int .i64 v3] 3 (0, 0)) ∧ w2.heap[g4]? = some (.cells #[.int .i64 v4] 3 (0, 0))) := by
    have h := H.out
    rcases hcase with ⟨hne, rfl, h11⟩ | ⟨heq, ⟨p, ⟨rfl, rfl, q3, q4, q5, q6⟩, hy⟩ | ⟨rfl, q2, q3, q4, q5, q6⟩⟩
    · rw [if_neg hne] at h
      exact .inl ⟨by decide, h.symm, ⟨_, h11.blk b1 (by simp)⟩, ⟨_, h11.blk b2 (by simp)⟩, ⟨_, h11.blk b3 (by simp)⟩, ⟨_, h11.blk b4 (by simp)⟩⟩
    · rw [if_pos heq, if_pos rfl] at h
      by_cases h8 : (8 : Int) < (l0_1.length : Int)
      · rw [if_pos h8] at h hy
        subst hy
        exact .inl ⟨by decide, h.symm, ⟨_, q3⟩, ⟨_, q4⟩, ⟨_, q5⟩, ⟨_, q6⟩⟩
      · rw [if_neg h8] at h hy
        exact .inr ⟨hy, h.symm, q3, q4, q5, q6⟩
    · rw [if_pos heq, if_neg q2] at h
      exact .inl ⟨q2, h.symm, q3, q4, q5, q6⟩
  clear hcase keep keepH b1 b2 b3 b4 HB ho hsz H HT HR HC
  have n12 : g1 ≠ g2 := by omega
  have n13 : g1 ≠ g3 := by omega
  have n14 : g1 ≠ g4 := by omega
  have n23 : g2 ≠ g3 := by omega
  have n24 : g2 ≠ g4 := by omega
  have n34 : g3 ≠ g4 := by omega
  rcases hcase' with ⟨hy, hr, ⟨x1, b1⟩, ⟨x2, b2⟩, ⟨x3, b3⟩, ⟨x4, b4⟩⟩ | ⟨hy, hr, b1, b2, b3, b4⟩
  · have c1 : w2.cell? ⟨g1, 0, none⟩ = some (.int .i64 x1) := (blk_cell b1 0).trans rfl
    have c2 : w2.cell? ⟨g2, 0, none⟩ = some (.int .i64 x2) := (blk_cell b2 0).trans rfl
    have c3 : w2.cell? ⟨g3, 0, none⟩ = some (.int .i64 x3) := (blk_cell b3 0).trans rfl
    have c4 : w2.cell? ⟨g4, 0, none⟩ = some (.int .i64 x4) := (blk_cell b4 0).trans rfl
    have z1 := blk_frozen b1 0
    have z2 := blk_frozen b2 0
    have z3 := blk_frozen b3 0
    have z4 := blk_frozen b4 0
    have hy' : (y != 0) = true := by simpa using hy
    go_wp2
    have q4 : ((((w2.setCell ⟨g1, 0, none⟩ (.int .i64 0)).setCell ⟨g2, 0, none⟩ (.int .i64 0)).setCell ⟨g3, 0, none⟩ (.int .i64 0)).setCell ⟨g4, 0, none⟩ (.int .i64 0)).cell? ⟨g4, 0, none⟩ = some (.int .i64 0) := (blk_cell (blk_put (blk_far (blk_far (blk_far b4 (p := ⟨g1, 0, none⟩) (Ne.symm n14) _) (p := ⟨g2, 0, none⟩) (Ne.symm n24) _) (p := ⟨g3, 0, none⟩) (Ne.symm n34) _) 0 (.int .i64 0) rfl) 0).trans rfl
    have q3 : ((((w2.setCell ⟨g1, 0, none⟩ (.int .i64 0)).setCell ⟨g2, 0, none⟩ (.int .i64 0)).setCell ⟨g3, 0, none⟩ (.int .i64 0)).setCell ⟨g4, 0, none⟩ (.int .i64 0)).cell? ⟨g3, 0, none⟩ = some (.int .i64 0) := (blk_cell (blk_far (blk_put (blk_far (blk_far b3 (p := ⟨g1, 0, none⟩) (Ne.symm n13) _) (p := ⟨g2, 0, none⟩) (Ne.symm n23) _) 0 (.int .i64 0) rfl) (p := ⟨g4, 0, none⟩) n34 _) 0).trans rfl
    have q2 : ((((w2.setCell ⟨g1, 0, none⟩ (.int .i64 0)).setCell ⟨g2, 0, none⟩ (.int .i64 0)).setCell ⟨g3, 0, none⟩ (.int .i64 0)).setCell ⟨g4, 0, none⟩ (.int .i64 0)).cell? ⟨g2, 0, none⟩ = some (.int .i64 0) := (blk_cell (blk_far (blk_far (blk_put (blk_far b2 (p := ⟨g1, 0, none⟩) (Ne.symm n12) _) 0 (.int .i64 0) rfl) (p := ⟨g3, 0, none⟩) n23 _) (p := ⟨g4, 0, none⟩) n24 _) 0).trans rfl
    have q1 : ((((w2.setCell ⟨g1, 0, none⟩ (.int .i64 0)).setCell ⟨g2, 0, none⟩ (.int .i64 0)).setCell ⟨g3, 0, none⟩ (.int .i64 0)).setCell ⟨g4, 0, none⟩ (.int .i64 0)).cell? ⟨g1, 0, none⟩ = some (.int .i64 0) := (blk_cell (blk_far (blk_far (blk_far (blk_put b1 0 (.int .i64 0) rfl) (p := ⟨g2, 0, none⟩) n12 _) (p := ⟨g3, 0, none⟩) n13 _) (p := ⟨g4, 0, none⟩) n14 _) 0).trans rfl
    have HB3 : Below w.heap.size w ((((w2.setCell ⟨g1, 0, none⟩ (.int .i64 0)).setCell ⟨g2, 0, none⟩ (.int .i64 0)).setCell ⟨g3, 0, none⟩ (.int .i64 0)).setCell ⟨g4, 0, none⟩ (.int .i64 0)) := (((HB2.setCell (p := ⟨g1, 0, none⟩) (by show _ ≤ g1; omega) _).setCell (p := ⟨g2, 0, none⟩) (by show _ ≤ g2; omega) _).setCell (p := ⟨g3, 0, none⟩) (by show _ ≤ g3; omega) _).setCell (p := ⟨g4, 0, none⟩) (by show _ ≤ g4; omega) _
    simp only [Prod.mk.injEq] at hr
    obtain ⟨rfl, rfl, rfl, rfl, rfl⟩ := hr
    exact bodyPost_ret (v := .tuple #[.int .i64 0, .int .i64 0, .int .i64 0, .int .i64 0, .int .i64 r5]) (by simp [results, Try.results20, go_sem, q1, q2, q3, q4]) rfl ⟨rfl, HB3⟩
  · have c1 : w2.cell? ⟨g1, 0, none⟩ = some (.int .i64 v1) := (blk_cell b1 0).trans rfl
    have c2 : w2.cell? ⟨g2, 0, none⟩ = some (.int .i64 v2) := (blk_cell b2 0).trans rfl
    have c3 : w2.cell? ⟨g3, 0, none⟩ = some (.int .i64 v3) := (blk_cell b3 0).trans rfl
    have c4 : w2.cell? ⟨g4, 0, none⟩ = some (.int .i64 v4) := (blk_cell b4 0).trans rfl
    have z1 := blk_frozen b1 0
    have z2 := blk_frozen b2 0
    have z3 := blk_frozen b3 0
    have z4 := blk_frozen b4 0
    subst hy
    go_wp2
    go_region
    go_wp2
    have q1 : (((((w2.setCell ⟨g1, 0, none⟩ (.int .i64 v1)).setCell ⟨g2, 0, none⟩ (.int .i64 v2)).setCell ⟨g3, 0, none⟩ (.int .i64 v3)).setCell ⟨g4, 0, none⟩ (.int .i64 v4)).drew).cell? ⟨g1, 0, none⟩ = some (.int .i64 v1) := (blk_cell (blk_drew (blk_far (blk_far (blk_far (blk_put b1 0 (.int .i64 v1) rfl) (p := ⟨g2, 0, none⟩) n12 _) (p := ⟨g3, 0, none⟩) n13 _) (p := ⟨g4, 0, none⟩) n14 _)) 0).trans rfl
    have q2 : (((((w2.setCell ⟨g1, 0, none⟩ (.int .i64 v1)).setCell ⟨g2, 0, none⟩ (.int .i64 v2)).setCell ⟨g3, 0, none⟩ (.int .i64 v3)).setCell ⟨g4, 0, none⟩ (.int .i64 v4)).drew).cell? ⟨g2, 0, none⟩ = some (.int .i64 v2) := (blk_cell (blk_drew (blk_far (blk_far (blk_put (blk_far b2 (p := ⟨g1, 0, none⟩) (Ne.symm n12) _) 0 (.int .i64 v2) rfl) (p := ⟨g3, 0, none⟩) n23 _) (p := ⟨g4, 0, none⟩) n24 _)) 0).trans rfl
    have q3 : (((((w2.setCell ⟨g1, 0, none⟩ (.int .i64 v1)).setCell ⟨g2, 0, none⟩ (.int .i64 v2)).setCell ⟨g3, 0, none⟩ (.int .i64 v3)).setCell ⟨g4, 0, none⟩ (.int .i64 v4)).drew).cell? ⟨g3, 0, none⟩ = some (.int .i64 v3) := (blk_cell (blk_drew (blk_far (blk_put (blk_far (blk_far b3 (p := ⟨g1, 0, none⟩) (Ne.symm n13) _) (p := ⟨g2, 0, none⟩) (Ne.symm n23) _) 0 (.int .i64 v3) rfl) (p := ⟨g4, 0, none⟩) n34 _)) 0).trans rfl
    have q4 : (((((w2.setCell ⟨g1, 0, none⟩ (.int .i64 v1)).setCell ⟨g2, 0, none⟩ (.int .i64 v2)).setCell ⟨g3, 0, none⟩ (.int .i64 v3)).setCell ⟨g4, 0, none⟩ (.int .i64 v4)).drew).cell? ⟨g4, 0, none⟩ = some (.int .i64 v4) := (blk_cell (blk_drew (blk_put (blk_far (blk_far (blk_far b4 (p := ⟨g1, 0, none⟩) (Ne.symm n14) _) (p := ⟨g2, 0, none⟩) (Ne.symm n24) _) (p := ⟨g3, 0, none⟩) (Ne.symm n34) _) 0 (.int .i64 v4) rfl)) 0).trans rfl
    have HB3 : Below w.heap.size w (((((w2.setCell ⟨g1, 0, none⟩ (.int .i64 v1)).setCell ⟨g2, 0, none⟩ (.int .i64 v2)).setCell ⟨g3, 0, none⟩ (.int .i64 v3)).setCell ⟨g4, 0, none⟩ (.int .i64 v4)).drew) := ((((HB2.setCell (p := ⟨g1, 0, none⟩) (by show _ ≤ g1; omega) _).setCell (p := ⟨g2, 0, none⟩) (by show _ ≤ g2; omega) _).setCell (p := ⟨g3, 0, none⟩) (by show _ ≤ g3; omega) _).setCell (p := ⟨g4, 0, none⟩) (by show _ ≤ g4; omega) _).drew
    simp only [Prod.mk.injEq] at hr
    obtain ⟨rfl, rfl, rfl, rfl, rfl⟩ := hr
    exact bodyPost_ret (v := .tuple #[.int .i64 r1, .int .i64 r2, .int .i64 r3, .int .i64 r4, .int .i64 0]) (by simp [results, Try.results20, go_sem, q1, q2, q3, q4]) rfl ⟨rfl, HB3⟩
end Go.Proofs.Ytihfopblmjgfaaa.Q

namespace Go.Proofs.Ytihfopblmjgfaaa.Q
open Go.RowKit Go.Proofs.YtihfopblmjgfaaaW.PrintWords Go.Proofs.YtihfopblmjgfaaaW.PrintLast Go.Proofs.YtihfopblmjgfaaaW.PrintMore
attribute [local go_sem] max2_int min2_int max_two min_two max_three min_three max_four min_four   -- for this text's walks alone
set_option linter.unusedVariables false
set_option linter.unusedSimpArgs false

/-! ### headseg_Lengths: function 22 -/
mutual
def headseg_Lengths.j0 : Nat → Int → List Int → Bool → Option ((List (S26)) × Int)
  | 0, _, _, _ => none
  | k + 1, x0, x1, x16 => if x16 = true then (some (([] : List (S26)), 3)) else (if (x1.length : Int) > 4096000 then (some (([] : List (S26)), 5)) else ((headseg_within.f k 0 4294967295 x1).bind fun t139 => (if t139 = true then (headseg_Lengths.l0 k x0 x1 ([] : List (S26)) 0) else (some (([] : List (S26)), 2)))))
def headseg_Lengths.l0 : Nat → Int → List Int → List (S26) → Int → Option ((List (S26)) × Int)
  | 0, _, _, _, _ => none
  | k + 1, x0, x1, x6, x7 => if x7 = 0 then (headseg_Lengths.j2 k x0 x1 x6 x7 true) else (headseg_Lengths.j2 k x0 x1 x6 x7 (decide (x7 < (x1.length : Int))))
def headseg_Lengths.j2 : Nat → Int → List Int → List (S26) → Int → Bool → Option ((List (S26)) × Int)
  | 0, _, _, _, _, _ => none
  | k + 1, x0, x1, x6, x7, x30 => if x30 = true then (if 0 ≤ x7 then (if x7 ≤ (mn (wrap64 (x7 + 16000)) (x1.length : Int)) then (if (mn (wrap64 (x7 + 16000)) (x1.length : Int)) ≤ (x1.length : Int) then (headseg_Lengths.l1 k x0 x1 x6 x7 (([(wrap64 (Int.tdiv x7 16000)) % 256] : List Int)) ((x1.take ((mn (wrap64 (x7 + 16000)) (x1.length : Int)) : Int).toNat).drop (x7 : Int).toNat) (((x1.take ((mn (wrap64 (x7 + 16000)) (x1.length : Int)) : Int).toNat).drop (x7 : Int).toNat).length : Int) 0) else (none)) else (none)) else (none)) else (some (x6, 0))
def headseg_Lengths.l1 : Nat → Int → List Int → List (S26) → Int → List Int → List Int → Int → Int → Option ((List (S26)) × Int)
  | 0, _, _, _, _, _, _, _, _ => none
  | k + 1, x0, x1, x6, x7, x8, x44, x45, x46 => if x46 < x45 then (if 0 ≤ x46 then (if x46 < (x44.length : Int) then ((headseg_put.f k x8 4 (rd x44 x46)).bind fun t145 => (headseg_Lengths.l1 k x0 x1 x6 x7 t145 x44 x45 (wrap64 (x46 + 1)))) else (none)) else (none)) else (if x6.length < 4398046511104 then (headseg_Lengths.l0 k x0 x1 (x6 ++ [(⟨x0, x8⟩ : S26)]) (wrap64 (x7 + 16000))) else (none))
end
def headseg_Lengths.f (k : Nat) (a0 : Int) (l1 : List Int) : Option ((List (S26)) × Int) := if a0 = 65445 then (headseg_Lengths.j0 k a0 l1 false) else (headseg_Lengths.j0 k a0 l1 (a0 != 65457))
theorem headseg_Lengths.mono_l : ∀ k, (∀ y0 y1 y2, LeO (headseg_Lengths.j0 k y0 y1 y2) (headseg_Lengths.j0 (k + 1) y0 y1 y2)) ∧ (∀ y0 y1 y2 y3, LeO (headseg_Lengths.l0 k y0 y1 y2 y3) (headseg_Lengths.l0 (k + 1) y0 y1 y2 y3)) ∧ (∀ y0 y1 y2 y3 y4, LeO (headseg_Lengths.j2 k y0 y1 y2 y3 y4) (headseg_Lengths.j2 (k + 1) y0 y1 y2 y3 y4)) ∧ (∀ y0 y1 y2 y3 y4 y5 y6 y7, LeO (headseg_Lengths.l1 k y0 y1 y2 y3 y4 y5 y6 y7) (headseg_Lengths.l1 (k + 1) y0 y1 y2 y3 y4 y5 y6 y7))
  | 0 => ⟨fun _ _ _ r h => by simp [headseg_Lengths.j0] at h, fun _ _ _ _ r h => by simp [headseg_Lengths.l0] at h, fun _ _ _ _ _ r h => by simp [headseg_Lengths.j2] at h, fun _ _ _ _ _ _ _ _ r h => by simp [headseg_Lengths.l1] at h⟩
  | k + 1 => by
    obtain ⟨ih0, ih1, ih2, ih3⟩ := headseg_Lengths.mono_l k
    refine ⟨?_, ?_, ?_, ?_⟩
    · intro y0 y1 y2
      unfold headseg_Lengths.j0
      repeat' first
      | (with_reducible exact ih0 _ _ _)
      | (with_reducible exact ih1 _ _ _ _)
      | (with_reducible exact ih2 _ _ _ _ _)
      | (with_reducible exact ih3 _ _ _ _ _ _ _ _)
      | (with_reducible exact headseg_put.mono _ _ _ _)
      | (with_reducible exact headseg_within.mono _ _ _ _)
      | (with_reducible exact LeO.refl _)
      | (with_reducible exact LeO.none _)
      | (with_reducible refine LeO.ite ?_ ?_)
      | (with_reducible refine LeO.bind ?_ (fun _ => ?_))
      | exact ih0 _ _ _
      | exact ih1 _ _ _ _
      | exact ih2 _ _ _ _ _
      | exact ih3 _ _ _ _ _ _ _ _
      | exact headseg_put.mono _ _ _ _
      | exact headseg_within.mono _ _ _ _
      | exact LeO.none _
      | refine LeO.ite ?_ ?_
      | refine LeO.bind ?_ (fun _ => ?_)
    · intro y0 y1 y2 y3
      unfold headseg_Lengths.l0
      repeat' first
      | (with_reducible exact ih0 _ _ _)
      | (with_reducible exact ih1 _ _ _ _)
      | (with_reducible exact ih2 _ _ _ _ _)
      | (with_reducible exact ih3 _ _ _ _ _ _ _ _)
      | (with_reducible exact headseg_put.mono _ _ _ _)
      | (with_reducible exact headseg_within.mono _ _ _ _)
      | (with_reducible exact LeO.refl _)
      | (with_reducible exact LeO.none _)
      | (with_reducible refine LeO.ite ?_ ?_)
      | (with_reducible refine LeO.bind ?_ (fun _ => ?_))
      | exact ih0 _ _ _
      | exact ih1 _ _ _ _
      | exact ih2 _ _ _ _ _
      | exact ih3 _ _ _ _ _ _ _ _
      | exact headseg_put.mono _ _ _ _
      | exact headseg_within.mono _ _ _ _
      | exact LeO.none _
      | refine LeO.ite ?_ ?_
      | refine LeO.bind ?_ (fun _ => ?_)
    · intro y0 y1 y2 y3 y4
      unfold headseg_Lengths.j2
      repeat' first
      | (with_reducible exact ih0 _ _ _)
      | (with_reducible exact ih1 _ _ _ _)
      | (with_reducible exact ih2 _ _ _ _ _)
      | (with_reducible exact ih3 _ _ _ _ _ _ _ _)
      | (with_reducible exact headseg_put.mono _ _ _ _)
      | (with_reducible exact headseg_within.mono _ _ _ _)
      | (with_reducible exact LeO.refl _)
      | (with_reducible exact LeO.none _)
      | (with_reducible refine LeO.ite ?_ ?_)
      | (with_reducible refine LeO.bind ?_ (fun _ => ?_))
      | exact ih0 _ _ _
      | exact ih1 _ _ _ _
      | exact ih2 _ _ _ _ _
      | exact ih3 _ _ _ _ _ _ _ _
      | exact headseg_put.mono _ _ _ _
      | exact headseg_within.mono _ _ _ _
      | exact LeO.none _
      | refine LeO.ite ?_ ?_
      | refine LeO.bind ?_ (fun _ => ?_)
    · intro y0 y1 y2 y3 y4 y5 y6 y7
      unfold headseg_Lengths.l1
      repeat' first
      | (with_reducible exact ih0 _ _ _)
      | (with_reducible exact ih1 _ _ _ _)
      | (with_reducible exact ih2 _ _ _ _ _)
      | (with_reducible exact ih3 _ _ _ _ _ _ _ _)
      | (with_reducible exact headseg_put.mono _ _ _ _)
      | (with_reducible exact headseg_within.mono _ _ _ _)
      | (with_reducible exact LeO.refl _)
      | (with_reducible exact LeO.none _)
      | (with_reducible refine LeO.ite ?_ ?_)
      | (with_reducible refine LeO.bind ?_ (fun _ => ?_))
      | exact ih0 _ _ _
      | exact ih1 _ _ _ _
      | exact ih2 _ _ _ _ _
      | exact ih3 _ _ _ _ _ _ _ _
      | exact headseg_put.mono _ _ _ _
      | exact headseg_within.mono _ _ _ _
      | exact LeO.none _
      | refine LeO.ite ?_ ?_
      | refine LeO.bind ?_ (fun _ => ?_)
theorem headseg_Lengths.mono : ∀ a0 a1 k, LeO (headseg_Lengths.f k a0 a1) (headseg_Lengths.f (k + 1) a0 a1) := by
  intro a0 a1 k
  obtain ⟨ih0, ih1, ih2, ih3⟩ := headseg_Lengths.mono_l k
  unfold headseg_Lengths.f
  repeat' first
      | (with_reducible exact ih0 _ _ _)
      | (with_reducible exact ih1 _ _ _ _)
      | (with_reducible exact ih2 _ _ _ _ _)
      | (with_reducible exact ih3 _ _ _ _ _ _ _ _)
      | (with_reducible exact headseg_put.mono _ _ _ _)
      | (with_reducible exact headseg_within.mono _ _ _ _)
      | (with_reducible exact LeO.refl _)
      | (with_reducible exact LeO.none _)
      | (with_reducible refine LeO.ite ?_ ?_)
      | (with_reducible refine LeO.bind ?_ (fun _ => ?_))
      | exact ih0 _ _ _
      | exact ih1 _ _ _ _
      | exact ih2 _ _ _ _ _
      | exact ih3 _ _ _ _ _ _ _ _
      | exact headseg_put.mono _ _ _ _
      | exact headseg_within.mono _ _ _ _
      | exact LeO.none _
      | refine LeO.ite ?_ ?_
      | refine LeO.bind ?_ (fun _ => ?_)
set_option maxHeartbeats 8000000 in
set_option maxRecDepth 100000 in
theorem headseg_Lengths.calls (k : Nat) (a0 : Int) (A1 : Option Addr) (c1 : Nat) (l1 : List Int) (r1 : List (S26)) (r2 : Int) (w : World) (hr1 : Kd.C (Kd.int .i64) w A1 l1.length l1) (hc1 : l1.length ≤ c1) (h : headseg_Lengths.f k a0 l1 = some (r1, r2)) :
    Calls Try.prog 22 #[.int .i64 a0, .slice A1 l1.length c1] w fun e w' => ∃ v0_ : Value, e = .returned (.tuple #[v0_, .int .i64 r2]) ∧ Kd.S k26 26 w' w.heap.size (fun _ => True) v0_ r1 ∧ Below w.heap.size w w' := by
  have hu26 := Try.underlying26
  have HR1 := Aside0.mk hr1
  have HC1 := Aside0.mk hc1
  clear hr1 hc1
  have HB := Aside0.mk (Below.refl w.heap.size w)
  have H : (if a0 = 65445 then (headseg_Lengths.j0 k a0 l1 false) else (headseg_Lengths.j0 k a0 l1 (a0 != 65457))) = some (r1, r2) := h
  clear h
  have HC3 := Aside0.mk H
  clear H
  go_enter Try.func22, Try.ntmps22
  go_upto_region 1 with (fail)
  go_cut [16] (fun v16 wc => ∃ (kq : Nat) (x16_2 : Bool), v16 = .bool x16_2 ∧ Aside0 (headseg_Lengths.j0 kq a0 l1 x16_2 = some (r1, r2)) ∧ Aside0 (kq ≤ k) ∧ Aside0 (Below w.heap.size w wc))
  case first =>
    have H := HC3.out
    clear HC3
    by_cases c4 : a0 = 65445
    · rw [if_pos c4] at H
      have c4b0 : (a0 == 65445) = true := beq_iff_eq.mpr c4
      have c4b1 : (a0 != 65445) = false := bne_eq_false_iff_eq.mpr c4
      clear c4
      (first | rw [c4b0] | (simp only [i64_w, i32_w]; rw [c4b0]) | skip)
      have H' := Aside0.mk H
      clear H
      go_wp2
      go_meet
      case rel => exact ⟨_, (false), (by first | rfl | (simp; done) | (simp [*]; done)), H', ⟨by first | omega | exact Nat.le_refl _⟩, ⟨by repeat (first | (with_reducible first | exact HB.out | apply below_alloc | apply pw_below_drewN | apply below_drew1) | exact HB.out)⟩⟩
    · rw [if_neg c4] at H
      have c4b0 : (a0 == 65445) = false := beq_eq_false_iff_ne.mpr c4
      have c4b1 : (a0 != 65445) = true := bne_iff_ne.mpr c4
      (first | rw [c4b0] | (simp only [i64_w, i32_w]; rw [c4b0]) | skip)
      have H' := Aside0.mk H
      clear H
      go_wp2
      go_meet
      case rel => exact ⟨_, ((a0 != 65457)), (by first | rfl | (simp; done) | (simp [*]; done)), H', ⟨by first | omega | exact Nat.le_refl _⟩, ⟨by repeat (first | (with_reducible first | exact HB.out | apply below_alloc | apply pw_below_drewN | apply below_drew1) | exact HB.out)⟩⟩
  case rest =>
    clear HC3
    try clear c1
    try clear c2
    try clear p2
    try clear c4
    try clear c4b0
    try clear c4b1
    obtain ⟨kq, x16_2, rfl, HA, HJ2, HB⟩ := hcut
    cases kq with
    | zero => exact absurd HA.out (by simp [headseg_Lengths.j0])
    | succ kj2 =>
      have H := HA.out
      clear HA
      simp only [headseg_Lengths.j0] at H
      by_cases c5 : x16_2 = true
      · subst c5
        have H1 : (some (([] : List (S26)), 3)) = some (r1, r2) := by rw [if_pos rfl] at H; exact H
        clear H
        have H := H1
        clear H1
        simp only [Option.some.injEq, Prod.mk.injEq] at H
        obtain ⟨rfl, rfl⟩ := H
        go_wp2
        go_ret2
        exact ⟨_, by first | rfl | (simp [errW_none, errW_some] <;> rfl) | (simp [*, errW_none, errW_some] <;> rfl), by first | exact Kd.S_nil _ _ _ _ _ | exact Kd.N_nil _ _ _ _ _ | exact Kd.V_nil _ _ _ _ _ | exact Kd.Q_nil _ _ _ _ _ | exact Kd.R_nil _ _ _ _ _, by repeat (first | (with_reducible first | exact HB.out | apply below_alloc | apply pw_below_drewN | apply below_drew1) | exact HB.out)⟩
      · replace c5 := Bool.eq_false_iff.mpr c5
        subst c5
        have H1 : (if (l1.length : Int) > 4096000 then (some (([] : List (S26)), 5)) else ((headseg_within.f kj2 0 4294967295 l1).bind fun t139 => (if t139 = true then (headseg_Lengths.l0 kj2 a0 l1 ([] : List (S26)) 0) else (some (([] : List (S26)), 2))))) = some (r1, r2) := by rw [if_neg (show ¬ (false = true) by decide)] at H; exact H
        clear H
        have H := H1
        clear H1
        by_cases c6 : (l1.length : Int) > 4096000
        · rw [if_pos c6] at H
          have c6b0 : decide (4096000 < (l1.length : Int)) = true := decide_eq_true c6
          have c6b1 : decide (4096000 < l1.length) = true := decide_eq_true (by omega)
          clear c6
          simp only [Option.some.injEq, Prod.mk.injEq] at H
          obtain ⟨rfl, rfl⟩ := H
          go_wp2
          go_ret2
          exact ⟨_, by first | rfl | (simp [errW_none, errW_some] <;> rfl) | (simp [*, errW_none, errW_some] <;> rfl), by first | exact Kd.S_nil _ _ _ _ _ | exact Kd.N_nil _ _ _ _ _ | exact Kd.V_nil _ _ _ _ _ | exact Kd.Q_nil _ _ _ _ _ | exact Kd.R_nil _ _ _ _ _, by repeat (first | (with_reducible first | exact HB.out | apply below_alloc | apply pw_below_drewN | apply below_drew1) | exact HB.out)⟩
        · rw [if_neg c6] at H
          have c6b0 : decide (4096000 < (l1.length : Int)) = false := decide_eq_false c6
          have c6b1 : decide (4096000 < l1.length) = false := decide_eq_false (by omega)
          clear c6
          replace H := Option.bind_eq_some_iff.mp H
          obtain ⟨t139, A70, H⟩ := H
          replace H : (if t139 = true then (headseg_Lengths.l0 kj2 a0 l1 ([] : List (S26)) 0) else (some (([] : List (S26)), 2))) = some (r1, r2) := H
          have A7 := Aside0.mk A70
          clear A70
          by_cases c8 : t139 = true
          · subst c8
            have H1 : (headseg_Lengths.l0 kj2 a0 l1 ([] : List (S26)) 0) = some (r1, r2) := by rw [if_pos rfl] at H; exact H
            clear H
            have H := H1
            clear H1
            have H' := Aside0.mk H
            clear H
            go_wp2_with (first | ((with_reducible refine gate_callee (f := 43) rfl ?_); refine goesL_ (some 21) rfl rfl Try.func43 (by kernel_rfl) rfl #[.int .i64 0, .int .i64 4294967295, .slice A1 l1.length c1] rfl (by (try simp only [List.map_toArray, List.map_cons, List.map_nil]); first | done | rfl | (simp only [List.length_drop, List.length_take]; rfl)) ?_; (with_reducible refine (headseg_within.calls kj2 0 4294967295 _ _ l1 true _ ?side1 ?side2 A7.out).mono ?_); (case side1 => repeat (first | exact (Kd.C_below HR1.out HB.out) | (with_reducible refine Kd.C_alloc ?_ _) | (with_reducible refine Kd.C_drewN ?_ _) | (with_reducible refine Kd.C_drew ?_))); (case side2 => exact HC1.out); rintro e w' ⟨rfl, ⟨nd, rfl⟩⟩; refine ⟨_, rfl, ?_⟩))
            go_loopg [6, 7] kj2 (fun kq v6 v7 w' => ∃ (x6_2 : List (S26)) (x7_2 : Int), v7 = .int .i64 x7_2 ∧ Aside0 (headseg_Lengths.l0 kq a0 l1 x6_2 x7_2 = some (r1, r2)) ∧ Aside0 (kq ≤ kj2) ∧ Aside0 (Kd.S k26 26 w' w.heap.size (fun _ => True) v6 x6_2) ∧ Aside0 (Below w.heap.size w w'))
            case atStart => exact ⟨(([] : List (S26))), (0), (by first | rfl | (simp; done) | (simp [*]; done)), H', ⟨Nat.le_refl _⟩, ⟨by first | exact Kd.S_nil _ _ _ _ _ | exact Kd.N_nil _ _ _ _ _ | exact Kd.V_nil _ _ _ _ _ | exact Kd.Q_nil _ _ _ _ _ | exact Kd.R_nil _ _ _ _ _⟩, ⟨by repeat (first | (with_reducible first | exact HB.out | apply below_alloc | apply pw_below_drewN | apply below_drew1) | exact HB.out)⟩⟩
            case round =>
              clear H'
              try clear c1
              try clear c2
              try clear p2
              try clear c4
              try clear c4b0
              try clear c4b1
              try clear c5
              try clear c6
              try clear c6b0
              try clear c6b1
              try clear c8
              try clear p2
              obtain ⟨x6_2, x7_2, rfl, HA, HK2, HO_6, HB⟩ := hrel
              cases gk with
              | zero => exact absurd HA.out (by simp [headseg_Lengths.l0])
              | succ k2 =>
                have H := HA.out
                clear HA
                simp only [headseg_Lengths.l0] at H
                have HC9 := Aside0.mk H
                clear H
                go_upto_region 9 with (fail)
                go_cut [30] (fun v30 wc => ∃ (kq : Nat) (x30_8 : Bool), v30 = .bool x30_8 ∧ Aside0 (headseg_Lengths.j2 kq a0 l1 x6_2 x7_2 x30_8 = some (r1, r2)) ∧ Aside0 (kq ≤ k2) ∧ Aside0 (Kd.S k26 26 wc w.heap.size (fun _ => True) u6 x6_2) ∧ Aside0 (Below w.heap.size w wc))
                case first =>
                  have H := HC9.out
                  clear HC9
                  by_cases c10 : x7_2 = 0
                  · rw [if_pos c10] at H
                    have c10b0 : (x7_2 == 0) = true := beq_iff_eq.mpr c10
                    have c10b1 : (x7_2 != 0) = false := bne_eq_false_iff_eq.mpr c10
                    clear c10
                    (first | rw [c10b0] | (simp only [i64_w, i32_w]; rw [c10b0]) | skip)
                    have H' := Aside0.mk H
                    clear H
                    go_wp2
                    go_meet
                    case rel => exact ⟨_, (true), (by first | rfl | (simp; done) | (simp [*]; done)), H', ⟨by have := HJ2.out; have := HK2.out; first | omega | exact Nat.le_refl _⟩, ⟨by (with_reducible repeat (first | apply Kd.S_alloc | apply Kd.S_drewN | apply Kd.S_drew)); exact HO_6.out⟩, ⟨by repeat (first | (with_reducible first | exact HB.out | apply below_alloc | apply pw_below_drewN | apply below_drew1) | exact HB.out)⟩⟩
                  · rw [if_neg c10] at H
                    have c10b0 : (x7_2 == 0) = false := beq_eq_false_iff_ne.mpr c10
                    have c10b1 : (x7_2 != 0) = true := bne_iff_ne.mpr c10
                    (first | rw [c10b0] | (simp only [i64_w, i32_w]; rw [c10b0]) | skip)
                    have H' := Aside0.mk H
                    clear H
                    go_wp2
                    go_meet
                    case rel => exact ⟨_, (decide (x7_2 < (l1.length : Int))), (by first | rfl | (simp; done) | (simp [*]; done)), H', ⟨by have := HJ2.out; have := HK2.out; first | omega | exact Nat.le_refl _⟩, ⟨by (with_reducible repeat (first | apply Kd.S_alloc | apply Kd.S_drewN | apply Kd.S_drew)); exact HO_6.out⟩, ⟨by repeat (first | (with_reducible first | exact HB.out | apply below_alloc | apply pw_below_drewN | apply below_drew1) | exact HB.out)⟩⟩
                case rest =>
                  clear HC9
                  try clear c1
                  try clear c2
                  try clear p2
                  try clear c4
                  try clear c4b0
                  try clear c4b1
                  try clear c5
                  try clear c6
                  try clear c6b0
                  try clear c6b1
                  try clear c8
                  try clear c10
                  try clear c10b0
                  try clear c10b1
                  try clear p2
                  obtain ⟨kq, x30_8, rfl, HA, HJ8, HO_6, HB⟩ := hcut
                  cases kq with
                  | zero => exact absurd HA.out (by simp [headseg_Lengths.j2])
                  | succ kj8 =>
                    have H := HA.out
                    clear HA
                    simp only [headseg_Lengths.j2] at H
                    by_cases c11 : x30_8 = true
                    · subst c11
                      have H1 : (if 0 ≤ x7_2 then (if x7_2 ≤ (mn (wrap64 (x7_2 + 16000)) (l1.length : Int)) then (if (mn (wrap64 (x7_2 + 16000)) (l1.length : Int)) ≤ (l1.length : Int) then (headseg_Lengths.l1 kj8 a0 l1 x6_2 x7_2 (([(wrap64 (Int.tdiv x7_2 16000)) % 256] : List Int)) ((l1.take ((mn (wrap64 (x7_2 + 16000)) (l1.length : Int)) : Int).toNat).drop (x7_2 : Int).toNat) (((l1.take ((mn (wrap64 (x7_2 + 16000)) (l1.length : Int)) : Int).toNat).drop (x7_2 : Int).toNat).length : Int) 0) else (none)) else (none)) else (none)) = some (r1, r2) := by rw [if_pos rfl] at H; exact H
                      clear H
                      have H := H1
                      clear H1
                      obtain ⟨y140, hy140⟩ : ∃ y_ : List Int, y_ = (([(wrap64 (Int.tdiv x7_2 16000)) % 256] : List Int)) := ⟨_, rfl⟩
                      replace H : (if 0 ≤ x7_2 then (if x7_2 ≤ (mn (wrap64 (x7_2 + 16000)) (l1.length : Int)) then (if (mn (wrap64 (x7_2 + 16000)) (l1.length : Int)) ≤ (l1.length : Int) then (headseg_Lengths.l1 kj8 a0 l1 x6_2 x7_2 y140 ((l1.take ((mn (wrap64 (x7_2 + 16000)) (l1.length : Int)) : Int).toNat).drop (x7_2 : Int).toNat) (((l1.take ((mn (wrap64 (x7_2 + 16000)) (l1.length : Int)) : Int).toNat).drop (x7_2 : Int).toNat).length : Int) 0) else (none)) else (none)) else (none)) = some (r1, r2) := by first | (rw [hy140]; with_reducible exact H) | (have H2_ := (Option.bind_some _ _).symm.trans H; rw [hy140]; with_reducible exact H2_) | (have H2_ := (Option.bind_some _ _).symm.trans H; with_reducible exact H2_) | with_reducible exact H | (rw [hy140]; exact H) | exact H
                      have Ny140 := Aside0.mk hy140
                      clear hy140
                      obtain ⟨ji12, hji12⟩ : ∃ j_ : Int, (mn (wrap64 (x7_2 + 16000)) (l1.length : Int)) = j_ := ⟨_, rfl⟩
                      replace H : (if 0 ≤ x7_2 then (if x7_2 ≤ (ji12) then (if (ji12) ≤ (l1.length : Int) then (headseg_Lengths.l1 kj8 a0 l1 x6_2 x7_2 y140 ((l1.take ((ji12) : Int).toNat).drop (x7_2 : Int).toNat) (((l1.take ((ji12) : Int).toNat).drop (x7_2 : Int).toNat).length : Int) 0) else (none)) else (none)) else (none)) = some (r1, r2) := by first | (rw [hji12] at H; exact H) | (simp only [hji12] at H ⊢; exact H)
                      have hji12_ : (if (l1.length : Int) < (wrap64 (x7_2 + 16000)) then (l1.length : Int) else (wrap64 (x7_2 + 16000))) = ji12 := hji12
                      by_cases c13 : 0 ≤ x7_2
                      · rw [if_pos c13] at H
                        have c13b0 := eq_true c13
                        have c13b1 : decide (0 ≤ x7_2) = true := decide_eq_true c13
                        clear c13
                        by_cases c14 : x7_2 ≤ (ji12)
                        · rw [if_pos c14] at H
                          have c14b0 := eq_true c14
                          have c14b1 : decide (x7_2 ≤ (ji12)) = true := decide_eq_true c14
                          clear c14
                          by_cases c15 : (ji12) ≤ (l1.length : Int)
                          · rw [if_pos c15] at H
                            have c15b0 := eq_true c15
                            have c15b1 : decide ((ji12) ≤ (l1.length : Int)) = true := decide_eq_true c15
                            clear c15
                            have H' := Aside0.mk H
                            clear H
                            go_wp2_with (first | ((with_reducible refine gate_dst (N := 36) rfl ?_); (try (refine gate_guard (by rfl) ?_; dsimp only)); refine Kd.R_lit (Kd.int .u8) _ 5 ?hg (N := 36) ?hd (xs := ([(wrap64 (Int.tdiv x7_2 16000)) % 256] : List Int)) (inner := [.int .u8 ((wrap64 (Int.tdiv x7_2 16000)) % 256)]) (ok := fun _ => True) (okp := fun _ => True) ?hr ?hp (fun _ hk => hk) trivial (Below.refl _ _) (Nat.le_refl _) (by simp) ?_; (case hd => rfl); (case hg => rfl); (case hr => first | (go_simp; done) | (go_simp; rfl)); (case hp => exact (Reps.one (show Kd.M (Kd.int .u8) _ _ _ ((wrap64 (Int.tdiv x7_2 16000)) % 256) [.int .u8 ((wrap64 (Int.tdiv x7_2 16000)) % 256)] from rfl) (Reps.none _ _))); intro v141 w16 ho17 hb hg_ hnew_; clear hg_ hnew_; (first | rw [← Ny140.out] at ho17 | (simp only [Int.reduceToNat] at ho17; rw [← Ny140.out] at ho17)); have n0_ := Aside0.mk (Kd.S_elder' (by (with_reducible repeat (first | apply Kd.S_alloc | apply Kd.S_drewN | apply Kd.S_drew)); exact HO_6.out) (Kd.R_base ho17) hb); have n1_ := Aside0.mk (Kd.R_lower ho17 (below_size (by repeat (first | (with_reducible first | exact HB.out | apply below_alloc | apply pw_below_drewN | apply below_drew1) | exact HB.out)))); have n2_ := Aside0.mk (below_step (by repeat (first | (with_reducible first | exact HB.out | apply below_alloc | apply pw_below_drewN | apply below_drew1) | exact HB.out)) hb); clear HO_6; clear HB; have HO_6 := n0_; have HO142 := n1_; have HB := n2_; clear n0_ n1_ n2_; clear hb ho17; obtain ⟨i018, hi018, _, hsz18, _⟩ := info_parts info3; obtain ⟨A18, hcut18, hA18, hC18⟩ := print_mid_of (P := Try.prog) (Value.int .i64) 0 39 3 .i64 .i64 Try.underlying39 hi018 hsz18 A1 c1 l1 x7_2 (ji12) (of_decide_eq_true (by first | (with_reducible assumption) | assumption)) (by first | omega | exact of_decide_eq_true (by first | (with_reducible assumption) | assumption)) (of_decide_eq_true (by first | (with_reducible assumption) | assumption)) HC1.out; have HR143 := Aside0.mk (Kd.C_of_reads (h1 := fun _ => rfl) (hA18 _ (Kd.reads_of_C HR1.out))); have HC143 := Aside0.mk hC18; clear hA18 hC18 hi018 hsz18; (try (have HX18 := Aside0.mk (show ((l1.take (ji12 : Int).toNat).drop (x7_2 : Int).toNat).length = (ji12 : Int).toNat - (x7_2 : Int).toNat from (by have h_ : (ji12 : Int) ≤ (l1.length : Int) := of_decide_eq_true (by first | (with_reducible assumption) | assumption); rw [List.length_drop, List.length_take]; omega))))))
                            go_loopg [8, 46] kj8 (fun kq v8 v46 w' => ∃ (x8_4 : List Int) (x46_4 : Int), v46 = .int .i64 x46_4 ∧ Aside0 (headseg_Lengths.l1 kq a0 l1 x6_2 x7_2 x8_4 ((l1.take ((ji12) : Int).toNat).drop (x7_2 : Int).toNat) (((l1.take ((ji12) : Int).toNat).drop (x7_2 : Int).toNat).length : Int) x46_4 = some (r1, r2)) ∧ Aside0 (kq ≤ kj8) ∧ Aside0 (Kd.S k26 26 w' w.heap.size (fun k_ => some k_ ≠ (v8 : Value).ownBlock) u6 x6_2) ∧ Aside0 (Kd.R (Kd.int .u8) 5 w' w.heap.size (fun _ => True) v8 x8_4) ∧ Aside0 (Below w.heap.size w w'))
                            case atStart => exact ⟨(y140), (0), (by first | rfl | (simp; done) | (simp [*]; done)), H', ⟨Nat.le_refl _⟩, ⟨by (with_reducible repeat (first | apply Kd.S_alloc | apply Kd.S_drewN | apply Kd.S_drew)); exact Kd.S_mono HO_6.out (fun _ hk => hk.2)⟩, ⟨by (with_reducible repeat (first | apply Kd.R_alloc | apply Kd.R_drewN | apply Kd.R_drew)); exact HO142.out⟩, ⟨by repeat (first | (with_reducible first | exact HB.out | apply below_alloc | apply pw_below_drewN | apply below_drew1) | exact HB.out)⟩⟩
                            case round =>
                              clear H'
                              try clear c1
                              try clear c2
                              try clear p2
                              try clear c4
                              try clear c4b0
                              try clear c4b1
                              try clear c5
                              try clear c6
                              try clear c6b0
                              try clear c6b1
                              try clear p6
                              try clear c8
                              try clear c10
                              try clear c10b0
                              try clear c10b1
                              try clear c11
                              try clear c13
                              try clear c13b0
                              try clear c13b1
                              try clear c14
                              try clear c14b0
                              try clear c14b1
                              try clear c15
                              try clear c15b0
                              try clear c15b1
                              try clear p2
                              obtain ⟨x8_4, x46_4, rfl, HA, HK4, HO_6, HO_8, HB⟩ := hrel
                              cases gk with
                              | zero => exact absurd HA.out (by simp [headseg_Lengths.l1])
                              | succ k4 =>
                                have H := HA.out
                                clear HA
                                simp only [headseg_Lengths.l1] at H
                                by_cases c19 : x46_4 < (((l1.take ((ji12) : Int).toNat).drop (x7_2 : Int).toNat).length : Int)
                                · rw [if_pos c19] at H
                                  have c19b0 : decide (x46_4 < (((l1.take ((ji12) : Int).toNat).drop (x7_2 : Int).toNat).length : Int)) = true := decide_eq_true c19
                                  (try (have c19b9 : decide (x46_4 < (((ji12 : Int).toNat - (x7_2 : Int).toNat : Nat) : Int)) = true := (by rw [← HX18.out]; exact c19b0)))
                                  clear c19
                                  by_cases c20 : 0 ≤ x46_4
                                  · rw [if_pos c20] at H
                                    have c20b0 : decide (0 ≤ x46_4) = true := decide_eq_true c20
                                    clear c20
                                    by_cases c21 : x46_4 < (((l1.take ((ji12) : Int).toNat).drop (x7_2 : Int).toNat).length : Int)
                                    · rw [if_pos c21] at H
                                      have c21b0 : decide (x46_4 < (((l1.take ((ji12) : Int).toNat).drop (x7_2 : Int).toNat).length : Int)) = true := decide_eq_true c21
                                      (try (have c21b9 : decide (x46_4 < (((ji12 : Int).toNat - (x7_2 : Int).toNat : Nat) : Int)) = true := (by rw [← HX18.out]; exact c21b0)))
                                      clear c21
                                      replace H := Option.bind_eq_some_iff.mp H
                                      obtain ⟨t145, A220, H⟩ := H
                                      replace H : (headseg_Lengths.l1 k4 a0 l1 x6_2 x7_2 t145 ((l1.take ((ji12) : Int).toNat).drop (x7_2 : Int).toNat) (((l1.take ((ji12) : Int).toNat).drop (x7_2 : Int).toNat).length : Int) (wrap64 (x46_4 + 1))) = some (r1, r2) := H
                                      have A22 := Aside0.mk A220
                                      clear A220
                                      have H' := Aside0.mk H
                                      clear H
                                      have p144 : 0 ≤ (x46_4 : Int) := of_decide_eq_true (by first | (with_reducible assumption) | assumption)
                                      have q144 : x46_4 < (((l1.take ((ji12) : Int).toNat).drop (x7_2 : Int).toNat).length : Int) := of_decide_eq_true (by first | (with_reducible assumption) | assumption)
                                      obtain ⟨ad144, e144, hx144_0⟩ := Kd.at_int HR143.out x46_4 p144 q144
                                      cases e144
                                      replace hx144_0 := (HB.out.cell (World.block_lt_of_cell? w _ hx144_0)).trans hx144_0
                                      replace p144 := eq_true p144
                                      replace q144 := eq_true q144
                                      (try (have q144x : (x46_4 < (((ji12 : Int).toNat - (x7_2 : Int).toNat : Nat) : Int)) = True := (by rw [← HX18.out]; exact q144)))
                                      obtain ⟨Ao23, co23, eo23⟩ := Kd.R_slice HO_8.out
                                      subst eo23
                                      go_wp2_with (first | ((with_reducible refine gate_callee (f := 44) rfl ?_); refine goesL_ (some 52) rfl rfl Try.func44 (by kernel_rfl) rfl #[.slice Ao23 x8_4.length co23, .int .i64 4, .int .i64 (rd ((l1.take ((ji12) : Int).toNat).drop (x7_2 : Int).toNat) x46_4)] rfl (by (try simp only [List.map_toArray, List.map_cons, List.map_nil]); first | done | (simp only [hji12]; rfl) | rfl | (simp only [List.length_drop, List.length_take]; rfl)) ?_; (with_reducible refine (headseg_put.calls k4 (fun k_ => some k_ = (.slice Ao23 x8_4.length co23 : Value).ownBlock) (.slice Ao23 x8_4.length co23) x8_4 4 (rd ((l1.take ((ji12) : Int).toNat).drop (x7_2 : Int).toNat) x46_4) t145 w _ ?side1 ?side2 A22.out).mono ?_); (case side1 => repeat (first | (with_reducible first | exact HB.out | apply below_alloc | apply pw_below_drewN | apply below_drew1) | exact HB.out)); (case side2 => exact Kd.R_tight rfl HO_8.out); rintro e w24 ⟨v146, rfl, ho0, hb, hkp⟩; refine ⟨_, rfl, ?_⟩; have n0_ := Aside0.mk (Kd.S_mono (ok' := fun k_ => some k_ ≠ (v146 : Value).ownBlock) (Kd.S_keptB (HO_6.out) hkp (fun k_ hk_ hs_ => (hk_) hs_)) (fun k_ hk_ => fun e_ => Or.elim (ho0.1 k_ e_.symm) (fun hs_ => hk_.2.1 hs_) (fun hn_ => Nat.not_le.2 hk_.2.2 hn_))); have n1_ := Aside0.mk (Kd.R_mono (ok' := fun k_ => True) ho0 (fun k_ hk_ => trivial)); have n2_ := Aside0.mk (hb); clear HO_6; clear HB; clear HO_8; have HO_6 := n0_; have HO147 := n1_; have HB := n2_; clear n0_ n1_ n2_; (try clear hb); (try clear hkp); (try clear ho0)))
                                      go_roundg k4
                                      case measure => have := HJ2.out; have := HK2.out; have := HJ8.out; have := HK4.out; omega
                                      case rel => exact ⟨(t145), (wrap64 (x46_4 + 1)), (by first | rfl | (simp; done) | (simp [*]; done)), H', ⟨by have := HJ2.out; have := HK2.out; have := HJ8.out; have := HK4.out; omega⟩, ⟨by (with_reducible repeat (first | apply Kd.S_alloc | apply Kd.S_drewN | apply Kd.S_drew)); exact HO_6.out⟩, ⟨by (with_reducible repeat (first | apply Kd.R_alloc | apply Kd.R_drewN | apply Kd.R_drew)); exact HO147.out⟩, ⟨by repeat (first | (with_reducible first | exact HB.out | apply below_alloc | apply pw_below_drewN | apply below_drew1) | exact HB.out)⟩⟩
                                    · rw [if_neg c21] at H
                                      exact absurd H (by simp)
                                  · rw [if_neg c20] at H
                                    exact absurd H (by simp)
                                · rw [if_neg c19] at H
                                  have c19b0 : decide (x46_4 < (((l1.take ((ji12) : Int).toNat).drop (x7_2 : Int).toNat).length : Int)) = false := decide_eq_false c19
                                  (try (have c19b9 : decide (x46_4 < (((ji12 : Int).toNat - (x7_2 : Int).toNat : Nat) : Int)) = false := (by rw [← HX18.out]; exact c19b0)))
                                  clear c19
                                  by_cases c25 : x6_2.length < 4398046511104
                                  · rw [if_pos c25] at H
                                    have LMc25 := Aside0.mk c25
                                    clear c25
                                    obtain ⟨y148, hy148⟩ : ∃ y_ : List (S26), y_ = (x6_2 ++ [(⟨a0, x8_4⟩ : S26)]) := ⟨_, rfl⟩
                                    replace H : (headseg_Lengths.l0 k4 a0 l1 y148 (wrap64 (x7_2 + 16000))) = some (r1, r2) := by first | (rw [hy148]; with_reducible exact H) | (have H2_ := (Option.bind_some _ _).symm.trans H; rw [hy148]; with_reducible exact H2_) | (have H2_ := (Option.bind_some _ _).symm.trans H; with_reducible exact H2_) | with_reducible exact H | (rw [hy148]; exact H) | exact H
                                    have Ny148 := Aside0.mk hy148
                                    clear hy148
                                    have H' := Aside0.mk H
                                    clear H
                                    obtain ⟨Ao26, co26, eo26⟩ := Kd.R_slice HO_8.out
                                    subst eo26
                                    go_wp2_with (first | ((with_reducible refine gate_builtin (b := .append) (xs := #[.tmp 54, .tmp 58]) rfl ?_); (try (refine gate_guard (by rfl) ?_; dsimp only)); at_builtin; refine Kd.S_append k26 (w0 := w) w.heap.size rfl (.tmp 54) (.tmp 58) 40 26 (.agg #[(.int .i64 0), (.slice none 0 0)]) 32 rfl Try.underlying40 info26 rfl (by decide) (by omega) u6 x6_2 (⟨a0, x8_4⟩ : S26) [.int .i64 a0, .slice Ao26 x8_4.length co26] (fun _ => True) (fun k_ => some k_ = (.slice Ao26 x8_4.length co26 : Value).ownBlock) rfl rfl ?aP (fun k_ hk_ => ((Kd.R_mono (ok' := fun k_ => ((fun _ => True)) k_ ∧ some k_ ≠ (u6 : Value).ownBlock) (Kd.R_apart' (HO_8.out) (Kd.S_typed HO_6.out) (by decide)) (fun k_ hk => ⟨trivial, hk.2⟩))).1 k_ hk_.symm) ?aF ?aO ?aB ?aS ?aL ?_; (case aP => exact k26_mkM _ _ _ (⟨a0, x8_4⟩ : S26) (Kd.R_mono (Kd.R_tight rfl (Kd.R_mono (ok' := fun k_ => ((fun _ => True)) k_ ∧ some k_ ≠ (u6 : Value).ownBlock) (Kd.R_apart' (HO_8.out) (Kd.S_typed HO_6.out) (by decide)) (fun k_ hk => ⟨trivial, hk.2⟩))) (fun _ h_ => h_))); (case aB => exact (by repeat (first | (with_reducible first | exact HB.out | apply below_alloc | apply pw_below_drewN | apply below_drew1) | exact HB.out))); (case aF => exact (fun _ _ => trivial)); (case aO => exact (by (with_reducible repeat (first | apply Kd.S_alloc | apply Kd.S_drewN | apply Kd.S_drew)); exact Kd.S_mono HO_6.out (fun k_ hk => ⟨trivial, fun e_ => hk e_⟩))); (case aS => exact (below_size (by repeat (first | (with_reducible first | exact HB.out | apply below_alloc | apply pw_below_drewN | apply below_drew1) | exact HB.out)))); (case aL => have := LMc25.out; omega); intro v149 w27 ho hb hg hat; rw [← Ny148.out] at ho; have n0_ := Aside0.mk (hb); have n1_ := Aside0.mk (ho); clear HB; clear HO_6; clear HO_8; have HB := n0_; have HO150 := n1_; clear n0_ n1_; clear ho hb hg hat))
                                    go_roundg k4
                                    case measure => have := HJ2.out; have := HK2.out; have := HJ8.out; have := HK4.out; omega
                                    case rel => exact ⟨(y148), (wrap64 (x7_2 + 16000)), (by first | rfl | (simp; done) | (simp [*]; done)), H', ⟨by have := HJ2.out; have := HK2.out; have := HJ8.out; have := HK4.out; omega⟩, ⟨by (with_reducible repeat (first | apply Kd.S_alloc | apply Kd.S_drewN | apply Kd.S_drew)); exact HO150.out⟩, ⟨by repeat (first | (with_reducible first | exact HB.out | apply below_alloc | apply pw_below_drewN | apply below_drew1) | exact HB.out)⟩⟩
                                  · rw [if_neg c25] at H
                                    exact absurd H (by simp)
                          · rw [if_neg c15] at H
                            exact absurd H (by simp)
                        · rw [if_neg c14] at H
                          exact absurd H (by simp)
                      · rw [if_neg c13] at H
                        exact absurd H (by simp)
                    · replace c11 := Bool.eq_false_iff.mpr c11
                      subst c11
                      have H1 : (some (x6_2, 0)) = some (r1, r2) := by rw [if_neg (show ¬ (false = true) by decide)] at H; exact H
                      clear H
                      have H := H1
                      clear H1
                      simp only [Option.some.injEq, Prod.mk.injEq] at H
                      obtain ⟨rfl, rfl⟩ := H
                      go_wp2
                      go_ret2
                      exact ⟨_, by first | rfl | (simp [errW_none, errW_some] <;> rfl) | (simp [*, errW_none, errW_some] <;> rfl), by (with_reducible repeat (first | apply Kd.S_alloc | apply Kd.S_drewN | apply Kd.S_drew)); exact HO_6.out, by repeat (first | (with_reducible first | exact HB.out | apply below_alloc | apply pw_below_drewN | apply below_drew1) | exact HB.out)⟩
          · replace c8 := Bool.eq_false_iff.mpr c8
            subst c8
            have H1 : (some (([] : List (S26)), 2)) = some (r1, r2) := by rw [if_neg (show ¬ (false = true) by decide)] at H; exact H
            clear H
            have H := H1
            clear H1
            simp only [Option.some.injEq, Prod.mk.injEq] at H
            obtain ⟨rfl, rfl⟩ := H
            go_wp2_with (first | ((with_reducible refine gate_callee (f := 43) rfl ?_); refine goesL_ (some 21) rfl rfl Try.func43 (by kernel_rfl) rfl #[.int .i64 0, .int .i64 4294967295, .slice A1 l1.length c1] rfl (by (try simp only [List.map_toArray, List.map_cons, List.map_nil]); first | done | rfl | (simp only [List.length_drop, List.length_take]; rfl)) ?_; (with_reducible refine (headseg_within.calls kj2 0 4294967295 _ _ l1 false _ ?side1 ?side2 A7.out).mono ?_); (case side1 => repeat (first | exact (Kd.C_below HR1.out HB.out) | (with_reducible refine Kd.C_alloc ?_ _) | (with_reducible refine Kd.C_drewN ?_ _) | (with_reducible refine Kd.C_drew ?_))); (case side2 => exact HC1.out); rintro e w' ⟨rfl, ⟨nd, rfl⟩⟩; refine ⟨_, rfl, ?_⟩))
            go_ret2
            exact ⟨_, by first | rfl | (simp [errW_none, errW_some] <;> rfl) | (simp [*, errW_none, errW_some] <;> rfl), by first | exact Kd.S_nil _ _ _ _ _ | exact Kd.N_nil _ _ _ _ _ | exact Kd.V_nil _ _ _ _ _ | exact Kd.Q_nil _ _ _ _ _ | exact Kd.R_nil _ _ _ _ _, by repeat (first | (with_reducible first | exact HB.out | apply below_alloc | apply pw_below_drewN | apply below_drew1) | exact HB.out)⟩

end Go.Proofs.Ytihfopblmjgfaaa.Q

namespace Go.Proofs.Ytihfopblmjgfaaa.Q
open Go.RowKit Go.Proofs.YtihfopblmjgfaaaW.PrintWords Go.Proofs.YtihfopblmjgfaaaW.PrintLast Go.Proofs.YtihfopblmjgfaaaW.PrintMore
attribute [local go_sem] max2_int min2_int max_two min_two max_three min_three max_four min_four   -- for this text's walks alone
set_option linter.unusedVariables false
set_option linter.unusedSimpArgs false

/-! ### headseg_Quant: function 28 -/
mutual
def headseg_Quant.j0 : Nat → Bool → Int → Int → Int → Int → Int → List (S89) → Int → Int → Bool → Bool → Bool → Bool → Bool → Bool → Bool → Bool → List Int → Int → Int → Option (Int × List Int × Int)
  | 0, _, _, _, _, _, _, _, _, _, _, _, _, _, _, _, _, _, _, _, _ => none
  | k + 1, x20, x152000, x152001, x152002, x152003, x152004, x152005, x152006, x152007, x152008, x152009, x152010, x152011, x152012, x152013, x152014, x152015, x152016, x152017, x152018 => if x20 = true then (some (0, ([] : List Int), 2)) else (headseg_Quant.l0 k (([(x152017) % 256, ((x152016.length : Int)) % 256] : List Int)) x152016 (x152016.length : Int) 0)
def headseg_Quant.l0 : Nat → List Int → List Int → Int → Int → Option (Int × List Int × Int)
  | 0, _, _, _, _ => none
  | k + 1, x4, x31, x32, x33 => if x33 < x32 then (if 0 ≤ x33 then (if x33 < (x31.length : Int) then ((headseg_put.f k x4 2 (wrap64 ((rd x31 x33) - 1))).bind fun t162 => (headseg_Quant.l0 k t162 x31 x32 (wrap64 (x33 + 1)))) else (none)) else (none)) else (some (65443, x4, 0))
end
def headseg_Quant.f (k : Nat) (a0_0 : Int) (a0_1 : Int) (a0_2 : Int) (a0_3 : Int) (a0_4 : Int) (l0_5 : List (S89)) (a0_6 : Int) (a0_7 : Int) (a0_8 : Bool) (a0_9 : Bool) (a0_10 : Bool) (a0_11 : Bool) (a0_12 : Bool) (a0_13 : Bool) (a0_14 : Bool) (a0_15 : Bool) (l0_16 : List Int) (a0_17 : Int) (a0_18 : Int) : Option (Int × List Int × Int) := (headseg_within.f k 0 255 (([a0_17, (l0_16.length : Int)] : List Int))).bind fun t156 => (if t156 = true then ((headseg_within.f k 1 65536 l0_16).bind fun t157 => (headseg_Quant.j0 k (!t157) a0_0 a0_1 a0_2 a0_3 a0_4 l0_5 a0_6 a0_7 a0_8 a0_9 a0_10 a0_11 a0_12 a0_13 a0_14 a0_15 l0_16 a0_17 a0_18)) else (headseg_Quant.j0 k true a0_0 a0_1 a0_2 a0_3 a0_4 l0_5 a0_6 a0_7 a0_8 a0_9 a0_10 a0_11 a0_12 a0_13 a0_14 a0_15 l0_16 a0_17 a0_18))
theorem headseg_Quant.mono_l : ∀ k, (∀ y0 y1 y2 y3 y4 y5 y6 y7 y8 y9 y10 y11 y12 y13 y14 y15 y16 y17 y18 y19, LeO (headseg_Quant.j0 k y0 y1 y2 y3 y4 y5 y6 y7 y8 y9 y10 y11 y12 y13 y14 y15 y16 y17 y18 y19) (headseg_Quant.j0 (k + 1) y0 y1 y2 y3 y4 y5 y6 y7 y8 y9 y10 y11 y12 y13 y14 y15 y16 y17 y18 y19)) ∧ (∀ y0 y1 y2 y3, LeO (headseg_Quant.l0 k y0 y1 y2 y3) (headseg_Quant.l0 (k + 1) y0 y1 y2 y3))
  | 0 => ⟨fun _ _ _ _ _ _ _ _ _ _ _ _ _ _ _ _ _ _ _ _ r h => by simp [headseg_Quant.j0] at h, fun _ _ _ _ r h => by simp [headseg_Quant.l0] at h⟩
  | k + 1 => by
    obtain ⟨ih0, ih1⟩ := headseg_Quant.mono_l k
    refine ⟨?_, ?_⟩
    · intro y0 y1 y2 y3 y4 y5 y6 y7 y8 y9 y10 y11 y12 y13 y14 y15 y16 y17 y18 y19
      unfold headseg_Quant.j0
      repeat' first
      | (with_reducible exact ih0 _ _ _ _ _ _ _ _ _ _ _ _ _ _ _ _ _ _ _ _)
      | (with_reducible exact ih1 _ _ _ _)
      | (with_reducible exact headseg_put.mono _ _ _ _)
      | (with_reducible exact headseg_within.mono _ _ _ _)
      | (with_reducible exact LeO.refl _)
      | (with_reducible exact LeO.none _)
      | (with_reducible refine LeO.ite ?_ ?_)
      | (with_reducible refine LeO.bind ?_ (fun _ => ?_))
      | exact ih0 _ _ _ _ _ _ _ _ _ _ _ _ _ _ _ _ _ _ _ _
      | exact ih1 _ _ _ _
      | exact headseg_put.mono _ _ _ _
      | exact headseg_within.mono _ _ _ _
      | exact LeO.none _
      | refine LeO.ite ?_ ?_
      | refine LeO.bind ?_ (fun _ => ?_)
    · intro y0 y1 y2 y3
      unfold headseg_Quant.l0
      repeat' first
      | (with_reducible exact ih0 _ _ _ _ _ _ _ _ _ _ _ _ _ _ _ _ _ _ _ _)
      | (with_reducible exact ih1 _ _ _ _)
      | (with_reducible exact headseg_put.mono _ _ _ _)
      | (with_reducible exact headseg_within.mono _ _ _ _)
      | (with_reducible exact LeO.refl _)
      | (with_reducible exact LeO.none _)
      | (with_reducible refine LeO.ite ?_ ?_)
      | (with_reducible refine LeO.bind ?_ (fun _ => ?_))
      | exact ih0 _ _ _ _ _ _ _ _ _ _ _ _ _ _ _ _ _ _ _ _
      | exact ih1 _ _ _ _
      | exact headseg_put.mono _ _ _ _
      | exact headseg_within.mono _ _ _ _
      | exact LeO.none _
      | refine LeO.ite ?_ ?_
      | refine LeO.bind ?_ (fun _ => ?_)
theorem headseg_Quant.mono : ∀ a0 a1 a2 a3 a4 a5 a6 a7 a8 a9 a10 a11 a12 a13 a14 a15 a16 a17 a18 k, LeO (headseg_Quant.f k a0 a1 a2 a3 a4 a5 a6 a7 a8 a9 a10 a11 a12 a13 a14 a15 a16 a17 a18) (headseg_Quant.f (k + 1) a0 a1 a2 a3 a4 a5 a6 a7 a8 a9 a10 a11 a12 a13 a14 a15 a16 a17 a18) := by
  intro a0 a1 a2 a3 a4 a5 a6 a7 a8 a9 a10 a11 a12 a13 a14 a15 a16 a17 a18 k
  obtain ⟨ih0, ih1⟩ := headseg_Quant.mono_l k
  unfold headseg_Quant.f
  repeat' first
      | (with_reducible exact ih0 _ _ _ _ _ _ _ _ _ _ _ _ _ _ _ _ _ _ _ _)
      | (with_reducible exact ih1 _ _ _ _)
      | (with_reducible exact headseg_put.mono _ _ _ _)
      | (with_reducible exact headseg_within.mono _ _ _ _)
      | (with_reducible exact LeO.refl _)
      | (with_reducible exact LeO.none _)
      | (with_reducible refine LeO.ite ?_ ?_)
      | (with_reducible refine LeO.bind ?_ (fun _ => ?_))
      | exact ih0 _ _ _ _ _ _ _ _ _ _ _ _ _ _ _ _ _ _ _ _
      | exact ih1 _ _ _ _
      | exact headseg_put.mono _ _ _ _
      | exact headseg_within.mono _ _ _ _
      | exact LeO.none _
      | refine LeO.ite ?_ ?_
      | refine LeO.bind ?_ (fun _ => ?_)
set_option maxHeartbeats 8000000 in
set_option maxRecDepth 100000 in
theorem headseg_Quant.calls (k : Nat) (a0_0 : Int) (a0_1 : Int) (a0_2 : Int) (a0_3 : Int) (a0_4 : Int) (A0_5 : Option Addr) (c0_5 : Nat) (l0_5 : List (S89)) (a0_6 : Int) (a0_7 : Int) (a0_8 : Bool) (a0_9 : Bool) (a0_10 : Bool) (a0_11 : Bool) (a0_12 : Bool) (a0_13 : Bool) (a0_14 : Bool) (a0_15 : Bool) (A0_16 : Option Addr) (c0_16 : Nat) (l0_16 : List Int) (a0_17 : Int) (a0_18 : Int) (r1 : Int) (r2 : List Int) (r3 : Int) (w : World) (hr0_5 : Kd.C k89 w A0_5 l0_5.length l0_5) (hc0_5 : l0_5.length ≤ c0_5) (hr0_16 : Kd.C (Kd.int .i64) w A0_16 l0_16.length l0_16) (hc0_16 : l0_16.length ≤ c0_16) (h : headseg_Quant.f k a0_0 a0_1 a0_2 a0_3 a0_4 l0_5 a0_6 a0_7 a0_8 a0_9 a0_10 a0_11 a0_12 a0_13 a0_14 a0_15 l0_16 a0_17 a0_18 = some (r1, r2, r3)) :
    Calls Try.prog 28 #[.agg #[.int .i64 a0_0, .int .i64 a0_1, .int .i64 a0_2, .int .i64 a0_3, .int .i64 a0_4, .slice A0_5 l0_5.length c0_5, .int .i64 a0_6, .int .i64 a0_7, .bool a0_8, .bool a0_9, .bool a0_10, .bool a0_11, .bool a0_12, .bool a0_13, .bool a0_14, .bool a0_15, .slice A0_16 l0_16.length c0_16, .int .i64 a0_17, .int .i64 a0_18]] w fun e w' => ∃ v1_ : Value, e = .returned (.tuple #[.agg #[.int .i64 r1, v1_], .int .i64 r3]) ∧ Kd.R (Kd.int .u8) 5 w' w.heap.size (fun _ => True) v1_ r2 ∧ Below w.heap.size w w' := by
  have hu55 := Try.underlying55
  have hu26 := Try.underlying26
  have HR0_5 := Aside0.mk hr0_5
  have HC0_5 := Aside0.mk hc0_5
  clear hr0_5 hc0_5
  have HR0_16 := Aside0.mk hr0_16
  have HC0_16 := Aside0.mk hc0_16
  clear hr0_16 hc0_16
  have HB := Aside0.mk (Below.refl w.heap.size w)
  have H : ((headseg_within.f k 0 255 (([a0_17, (l0_16.length : Int)] : List Int))).bind fun t156 => (if t156 = true then ((headseg_within.f k 1 65536 l0_16).bind fun t157 => (headseg_Quant.j0 k (!t157) a0_0 a0_1 a0_2 a0_3 a0_4 l0_5 a0_6 a0_7 a0_8 a0_9 a0_10 a0_11 a0_12 a0_13 a0_14 a0_15 l0_16 a0_17 a0_18)) else (headseg_Quant.j0 k true a0_0 a0_1 a0_2 a0_3 a0_4 l0_5 a0_6 a0_7 a0_8 a0_9 a0_10 a0_11 a0_12 a0_13 a0_14 a0_15 l0_16 a0_17 a0_18))) = some (r1, r2, r3) := h
  clear h
  have HC2 := Aside0.mk H
  clear H
  go_enter Try.func28, Try.ntmps28
  go_upto_region 1 with (first | ((with_reducible refine gate_dst (N := 1) rfl ?_); refine box_event ?hg (N := 1) ?hd (cs := #[.int .i64 a0_0, .int .i64 a0_1, .int .i64 a0_2, .int .i64 a0_3, .int .i64 a0_4, .slice A0_5 l0_5.length c0_5, .int .i64 a0_6, .int .i64 a0_7, .bool a0_8, .bool a0_9, .bool a0_10, .bool a0_11, .bool a0_12, .bool a0_13, .bool a0_14, .bool a0_15, .slice A0_16 l0_16.length c0_16, .int .i64 a0_17, .int .i64 a0_18]) (t := 55) ?hr ?_; (case hd => rfl); (case hg => rfl); (case hr => first | (go_simp; done) | (go_simp; rfl)); intro gb151 hg w3 hbox hb; have n0_ := Aside0.mk (below_step (by repeat (first | (with_reducible first | exact HB.out | apply below_alloc | apply pw_below_drewN | apply below_drew1) | exact HB.out)) hb); have n1_ := Aside0.mk (hbox); have n2_ := Aside0.mk ((by rw [hg]; exact (below_size (by repeat (first | (with_reducible first | exact HB.out | apply below_alloc | apply pw_below_drewN | apply below_drew1) | exact HB.out))) : w.heap.size ≤ gb151)); have n3_ := Aside0.mk ((by rw [hg]; exact (below_size (by repeat (first | (with_reducible first | exact HB.out | apply below_alloc | apply pw_below_drewN | apply below_drew1) | exact HB.out))) : w.heap.size ≤ gb151)); clear HB; have HB := n0_; have BK151 := n1_; have GW151 := n2_; have GE151 := n3_; clear n0_ n1_ n2_ n3_; clear hb hbox hg) | ((with_reducible refine gate_dst (N := 2) rfl ?_); refine box_event ?hg (N := 2) ?hd (cs := #[.int .i64 0, .slice none 0 0]) (t := 26) ?hr ?_; (case hd => rfl); (case hg => rfl); (case hr => first | (go_simp; done) | (go_simp; rfl)); intro gb152 hg w4 hbox hb; have n0_ := Aside0.mk (blk_below (g := gb151) (o := .cells #[.int .i64 a0_0, .int .i64 a0_1, .int .i64 a0_2, .int .i64 a0_3, .int .i64 a0_4, .slice A0_5 l0_5.length c0_5, .int .i64 a0_6, .int .i64 a0_7, .bool a0_8, .bool a0_9, .bool a0_10, .bool a0_11, .bool a0_12, .bool a0_13, .bool a0_14, .bool a0_15, .slice A0_16 l0_16.length c0_16, .int .i64 a0_17, .int .i64 a0_18] 55 (0, 0)) (by (with_reducible repeat (first | refine blk_drewN ?_ _ | refine blk_drew ?_ | refine blk_alloc ?_ _)); exact BK151.out) hb); have n1_ := Aside0.mk (below_step (by repeat (first | (with_reducible first | exact HB.out | apply below_alloc | apply pw_below_drewN | apply below_drew1 | refine below_set ?_ GE151.out) | exact HB.out)) hb); have n2_ := Aside0.mk (hbox); have n3_ := Aside0.mk ((by rw [hg]; exact (below_size (by repeat (first | (with_reducible first | exact HB.out | apply below_alloc | apply pw_below_drewN | apply below_drew1 | refine below_set ?_ GE151.out) | exact HB.out))) : w.heap.size ≤ gb152)); have n4_ := Aside0.mk ((by rw [hg]; exact (below_size (by repeat (first | (with_reducible first | exact HB.out | apply below_alloc | apply pw_below_drewN | apply below_drew1 | refine below_set ?_ GE151.out) | exact HB.out))) : w.heap.size ≤ gb152)); have n5_ := Aside0.mk ((by rw [hg]; exact Nat.ne_of_lt (blk_lt (g := gb151) (o := .cells #[.int .i64 a0_0, .int .i64 a0_1, .int .i64 a0_2, .int .i64 a0_3, .int .i64 a0_4, .slice A0_5 l0_5.length c0_5, .int .i64 a0_6, .int .i64 a0_7, .bool a0_8, .bool a0_9, .bool a0_10, .bool a0_11, .bool a0_12, .bool a0_13, .bool a0_14, .bool a0_15, .slice A0_16 l0_16.length c0_16, .int .i64 a0_17, .int .i64 a0_18] 55 (0, 0)) (by (with_reducible repeat (first | refine blk_drewN ?_ _ | refine blk_drew ?_ | refine blk_alloc ?_ _)); exact BK151.out)) : gb151 ≠ gb152)); have n6_ := Aside0.mk ((by rw [hg]; exact Nat.ne_of_gt (blk_lt (g := gb151) (o := .cells #[.int .i64 a0_0, .int .i64 a0_1, .int .i64 a0_2, .int .i64 a0_3, .int .i64 a0_4, .slice A0_5 l0_5.length c0_5, .int .i64 a0_6, .int .i64 a0_7, .bool a0_8, .bool a0_9, .bool a0_10, .bool a0_11, .bool a0_12, .bool a0_13, .bool a0_14, .bool a0_15, .slice A0_16 l0_16.length c0_16, .int .i64 a0_17, .int .i64 a0_18] 55 (0, 0)) (by (with_reducible repeat (first | refine blk_drewN ?_ _ | refine blk_drew ?_ | refine blk_alloc ?_ _)); exact BK151.out)) : gb152 ≠ gb151)); clear BK151; clear HB; have BK151 := n0_; have HB := n1_; have BK152 := n2_; have GW152 := n3_; have GE152 := n4_; have NB151_152 := n5_; have NB152_151 := n6_; clear n0_ n1_ n2_ n3_ n4_ n5_ n6_; clear hb hbox hg))
  (try simp only [Act.put, List.setIfInBounds_toArray, List.set_cons_zero, List.set_cons_succ])
  go_cut [20] (fun v20 wc => ∃ (kq : Nat) (x20_1 : Bool), v20 = .bool x20_1 ∧ Aside0 (headseg_Quant.j0 kq x20_1 a0_0 a0_1 a0_2 a0_3 a0_4 l0_5 a0_6 a0_7 a0_8 a0_9 a0_10 a0_11 a0_12 a0_13 a0_14 a0_15 l0_16 a0_17 a0_18 = some (r1, r2, r3)) ∧ Aside0 (kq ≤ k) ∧ Aside0 (wc.heap[gb151]? = some (.cells #[.int .i64 a0_0, .int .i64 a0_1, .int .i64 a0_2, .int .i64 a0_3, .int .i64 a0_4, (.slice A0_5 l0_5.length c0_5), .int .i64 a0_6, .int .i64 a0_7, .bool a0_8, .bool a0_9, .bool a0_10, .bool a0_11, .bool a0_12, .bool a0_13, .bool a0_14, .bool a0_15, (.slice A0_16 l0_16.length c0_16), .int .i64 a0_17, .int .i64 a0_18] 55 (0, 0))) ∧ Aside0 (wc.heap[gb152]? = some (.cells #[.int .i64 0, (.slice none 0 0)] 26 (0, 0))) ∧ Aside0 (Below w.heap.size w wc))
  case first =>
    have H := HC2.out
    clear HC2
    obtain ⟨y153, hy153⟩ : ∃ y_ : List Int, y_ = (([a0_17, (l0_16.length : Int)] : List Int)) := ⟨_, rfl⟩
    replace H : ((headseg_within.f k 0 255 y153).bind fun t156 => (if t156 = true then ((headseg_within.f k 1 65536 l0_16).bind fun t157 => (headseg_Quant.j0 k (!t157) a0_0 a0_1 a0_2 a0_3 a0_4 l0_5 a0_6 a0_7 a0_8 a0_9 a0_10 a0_11 a0_12 a0_13 a0_14 a0_15 l0_16 a0_17 a0_18)) else (headseg_Quant.j0 k true a0_0 a0_1 a0_2 a0_3 a0_4 l0_5 a0_6 a0_7 a0_8 a0_9 a0_10 a0_11 a0_12 a0_13 a0_14 a0_15 l0_16 a0_17 a0_18))) = some (r1, r2, r3) := by first | (rw [hy153]; with_reducible exact H) | (have H2_ := (Option.bind_some _ _).symm.trans H; rw [hy153]; with_reducible exact H2_) | (have H2_ := (Option.bind_some _ _).symm.trans H; with_reducible exact H2_) | with_reducible exact H | (rw [hy153]; exact H) | exact H
    have Ny153 := Aside0.mk hy153
    clear hy153
    replace H := Option.bind_eq_some_iff.mp H
    obtain ⟨t156, A50, H⟩ := H
    replace H : (if t156 = true then ((headseg_within.f k 1 65536 l0_16).bind fun t157 => (headseg_Quant.j0 k (!t157) a0_0 a0_1 a0_2 a0_3 a0_4 l0_5 a0_6 a0_7 a0_8 a0_9 a0_10 a0_11 a0_12 a0_13 a0_14 a0_15 l0_16 a0_17 a0_18)) else (headseg_Quant.j0 k true a0_0 a0_1 a0_2 a0_3 a0_4 l0_5 a0_6 a0_7 a0_8 a0_9 a0_10 a0_11 a0_12 a0_13 a0_14 a0_15 l0_16 a0_17 a0_18)) = some (r1, r2, r3) := H
    have A5 := Aside0.mk A50
    clear A50
    by_cases c6 : t156 = true
    · subst c6
      have H1 : ((headseg_within.f k 1 65536 l0_16).bind fun t157 => (headseg_Quant.j0 k (!t157) a0_0 a0_1 a0_2 a0_3 a0_4 l0_5 a0_6 a0_7 a0_8 a0_9 a0_10 a0_11 a0_12 a0_13 a0_14 a0_15 l0_16 a0_17 a0_18)) = some (r1, r2, r3) := by rw [if_pos rfl] at H; exact H
      clear H
      have H := H1
      clear H1
      replace H := Option.bind_eq_some_iff.mp H
      obtain ⟨t157, A70, H⟩ := H
      replace H : (headseg_Quant.j0 k (!t157) a0_0 a0_1 a0_2 a0_3 a0_4 l0_5 a0_6 a0_7 a0_8 a0_9 a0_10 a0_11 a0_12 a0_13 a0_14 a0_15 l0_16 a0_17 a0_18) = some (r1, r2, r3) := H
      have A7 := Aside0.mk A70
      clear A70
      have H' := Aside0.mk H
      clear H
      have hnb8 := NB151_152.out
      have hnc8 := NB152_151.out
      have hcz9_0 : w4.cell? ⟨gb151, 0, none⟩ = some (.int .i64 a0_0) := (blk_cell BK151.out 0).trans rfl
      have hcz9_1 : w4.cell? ⟨gb151, 1, none⟩ = some (.int .i64 a0_1) := (blk_cell BK151.out 1).trans rfl
      have hcz9_2 : w4.cell? ⟨gb151, 2, none⟩ = some (.int .i64 a0_2) := (blk_cell BK151.out 2).trans rfl
      have hcz9_3 : w4.cell? ⟨gb151, 3, none⟩ = some (.int .i64 a0_3) := (blk_cell BK151.out 3).trans rfl
      have hcz9_4 : w4.cell? ⟨gb151, 4, none⟩ = some (.int .i64 a0_4) := (blk_cell BK151.out 4).trans rfl
      have hcz9_5 : w4.cell? ⟨gb151, 5, none⟩ = some (.slice A0_5 l0_5.length c0_5) := (blk_cell BK151.out 5).trans rfl
      have hcz9_6 : w4.cell? ⟨gb151, 6, none⟩ = some (.int .i64 a0_6) := (blk_cell BK151.out 6).trans rfl
      have hcz9_7 : w4.cell? ⟨gb151, 7, none⟩ = some (.int .i64 a0_7) := (blk_cell BK151.out 7).trans rfl
      have hcz9_8 : w4.cell? ⟨gb151, 8, none⟩ = some (.bool a0_8) := (blk_cell BK151.out 8).trans rfl
      have hcz9_9 : w4.cell? ⟨gb151, 9, none⟩ = some (.bool a0_9) := (blk_cell BK151.out 9).trans rfl
      have hcz9_10 : w4.cell? ⟨gb151, 10, none⟩ = some (.bool a0_10) := (blk_cell BK151.out 10).trans rfl
      have hcz9_11 : w4.cell? ⟨gb151, 11, none⟩ = some (.bool a0_11) := (blk_cell BK151.out 11).trans rfl
      have hcz9_12 : w4.cell? ⟨gb151, 12, none⟩ = some (.bool a0_12) := (blk_cell BK151.out 12).trans rfl
      have hcz9_13 : w4.cell? ⟨gb151, 13, none⟩ = some (.bool a0_13) := (blk_cell BK151.out 13).trans rfl
      have hcz9_14 : w4.cell? ⟨gb151, 14, none⟩ = some (.bool a0_14) := (blk_cell BK151.out 14).trans rfl
      have hcz9_15 : w4.cell? ⟨gb151, 15, none⟩ = some (.bool a0_15) := (blk_cell BK151.out 15).trans rfl
      have hcz9_16 : w4.cell? ⟨gb151, 16, none⟩ = some (.slice A0_16 l0_16.length c0_16) := (blk_cell BK151.out 16).trans rfl
      have hcz9_17 : w4.cell? ⟨gb151, 17, none⟩ = some (.int .i64 a0_17) := (blk_cell BK151.out 17).trans rfl
      have hcz9_18 : w4.cell? ⟨gb151, 18, none⟩ = some (.int .i64 a0_18) := (blk_cell BK151.out 18).trans rfl
      have hfz9_0 := blk_frozen BK151.out 0
      have hfz9_1 := blk_frozen BK151.out 1
      have hfz9_2 := blk_frozen BK151.out 2
      have hfz9_3 := blk_frozen BK151.out 3
      have hfz9_4 := blk_frozen BK151.out 4
      have hfz9_5 := blk_frozen BK151.out 5
      have hfz9_6 := blk_frozen BK151.out 6
      have hfz9_7 := blk_frozen BK151.out 7
      have hfz9_8 := blk_frozen BK151.out 8
      have hfz9_9 := blk_frozen BK151.out 9
      have hfz9_10 := blk_frozen BK151.out 10
      have hfz9_11 := blk_frozen BK151.out 11
      have hfz9_12 := blk_frozen BK151.out 12
      have hfz9_13 := blk_frozen BK151.out 13
      have hfz9_14 := blk_frozen BK151.out 14
      have hfz9_15 := blk_frozen BK151.out 15
      have hfz9_16 := blk_frozen BK151.out 16
      have hfz9_17 := blk_frozen BK151.out 17
      have hfz9_18 := blk_frozen BK151.out 18
      go_wp2_with (first | ((with_reducible refine gate_dst (N := 12) rfl ?_); refine Kd.R_lit (Kd.int .i64) _ 3 ?hg (N := 12) ?hd (xs := ([a0_17, (l0_16.length : Int)] : List Int)) (inner := [.int .i64 a0_17, .int .i64 (l0_16.length : Int)]) (ok := fun _ => True) (okp := fun _ => True) ?hr ?hp (fun _ hk => hk) trivial (Below.refl _ _) (Nat.le_refl _) (by simp) ?_; (case hd => rfl); (case hg => rfl); (case hr => first | (go_simp; done) | (go_simp; rfl)); (case hp => exact (Reps.one (show Kd.M (Kd.int .i64) _ _ _ a0_17 [.int .i64 a0_17] from rfl) (Reps.one (show Kd.M (Kd.int .i64) _ _ _ (l0_16.length : Int) [.int .i64 (l0_16.length : Int)] from rfl) (Reps.none _ _)))); intro v154 w10 ho11 hb hg_ hnew_; clear hg_ hnew_; (first | rw [← Ny153.out] at ho11 | (simp only [Int.reduceToNat] at ho11; rw [← Ny153.out] at ho11)); have n0_ := Aside0.mk (Kd.R_lower ho11 (below_size (by repeat (first | (with_reducible first | exact HB.out | apply below_alloc | apply pw_below_drewN | apply below_drew1 | refine below_set ?_ GE151.out | refine below_set ?_ GE152.out) | exact HB.out)))); have n1_ := Aside0.mk (blk_below (g := gb151) (o := .cells #[.int .i64 a0_0, .int .i64 a0_1, .int .i64 a0_2, .int .i64 a0_3, .int .i64 a0_4, .slice A0_5 l0_5.length c0_5, .int .i64 a0_6, .int .i64 a0_7, .bool a0_8, .bool a0_9, .bool a0_10, .bool a0_11, .bool a0_12, .bool a0_13, .bool a0_14, .bool a0_15, .slice A0_16 l0_16.length c0_16, .int .i64 a0_17, .int .i64 a0_18] 55 (0, 0)) (by (with_reducible repeat (first | refine blk_drewN ?_ _ | refine blk_drew ?_ | refine blk_alloc ?_ _)); exact BK151.out) hb); have n2_ := Aside0.mk (blk_below (g := gb152) (o := .cells #[.int .i64 0, .slice none 0 0] 26 (0, 0)) (by (with_reducible repeat (first | refine blk_drewN ?_ _ | refine blk_drew ?_ | refine blk_alloc ?_ _)); exact BK152.out) hb); have n3_ := Aside0.mk (below_step (by repeat (first | (with_reducible first | exact HB.out | apply below_alloc | apply pw_below_drewN | apply below_drew1 | refine below_set ?_ GE151.out | refine below_set ?_ GE152.out) | exact HB.out)) hb); clear BK151; clear BK152; clear HB; have HO155 := n0_; have BK151 := n1_; have BK152 := n2_; have HB := n3_; clear n0_ n1_ n2_ n3_; clear hb ho11; obtain ⟨Ao12, co12, eo12⟩ := Kd.R_slice HO155.out; subst eo12) | ((with_reducible refine gate_callee (f := 43) rfl ?_); refine goesL_ (some 13) rfl rfl Try.func43 (by kernel_rfl) rfl #[.int .i64 0, .int .i64 255, .slice Ao12 y153.length co12] rfl (by (try simp only [List.map_toArray, List.map_cons, List.map_nil]); first | done | rfl | (simp only [List.length_drop, List.length_take]; rfl)) ?_; (with_reducible refine (headseg_within.calls k 0 255 _ _ y153 true _ ?side1 ?side2 A5.out).mono ?_); (case side1 => repeat (first | exact (Kd.R_reads' HO155.out).2.2 | (with_reducible refine Kd.C_alloc ?_ _) | (with_reducible refine Kd.C_drewN ?_ _) | (with_reducible refine Kd.C_drew ?_))); (case side2 => exact (Kd.R_reads' HO155.out).2.1); rintro e w' ⟨rfl, ⟨nd, rfl⟩⟩; refine ⟨_, rfl, ?_⟩; have hcz13_0 : w10.cell? ⟨gb151, 0, none⟩ = some (.int .i64 a0_0) := (blk_cell BK151.out 0).trans rfl; have hcz13_1 : w10.cell? ⟨gb151, 1, none⟩ = some (.int .i64 a0_1) := (blk_cell BK151.out 1).trans rfl; have hcz13_2 : w10.cell? ⟨gb151, 2, none⟩ = some (.int .i64 a0_2) := (blk_cell BK151.out 2).trans rfl; have hcz13_3 : w10.cell? ⟨gb151, 3, none⟩ = some (.int .i64 a0_3) := (blk_cell BK151.out 3).trans rfl; have hcz13_4 : w10.cell? ⟨gb151, 4, none⟩ = some (.int .i64 a0_4) := (blk_cell BK151.out 4).trans rfl; have hcz13_5 : w10.cell? ⟨gb151, 5, none⟩ = some (.slice A0_5 l0_5.length c0_5) := (blk_cell BK151.out 5).trans rfl; have hcz13_6 : w10.cell? ⟨gb151, 6, none⟩ = some (.int .i64 a0_6) := (blk_cell BK151.out 6).trans rfl; have hcz13_7 : w10.cell? ⟨gb151, 7, none⟩ = some (.int .i64 a0_7) := (blk_cell BK151.out 7).trans rfl; have hcz13_8 : w10.cell? ⟨gb151, 8, none⟩ = some (.bool a0_8) := (blk_cell BK151.out 8).trans rfl; have hcz13_9 : w10.cell? ⟨gb151, 9, none⟩ = some (.bool a0_9) := (blk_cell BK151.out 9).trans rfl; have hcz13_10 : w10.cell? ⟨gb151, 10, none⟩ = some (.bool a0_10) := (blk_cell BK151.out 10).trans rfl; have hcz13_11 : w10.cell? ⟨gb151, 11, none⟩ = some (.bool a0_11) := (blk_cell BK151.out 11).trans rfl; have hcz13_12 : w10.cell? ⟨gb151, 12, none⟩ = some (.bool a0_12) := (blk_cell BK151.out 12).trans rfl; have hcz13_13 : w10.cell? ⟨gb151, 13, none⟩ = some (.bool a0_13) := (blk_cell BK151.out 13).trans rfl; have hcz13_14 : w10.cell? ⟨gb151, 14, none⟩ = some (.bool a0_14) := (blk_cell BK151.out 14).trans rfl; have hcz13_15 : w10.cell? ⟨gb151, 15, none⟩ = some (.bool a0_15) := (blk_cell BK151.out 15).trans rfl; have hcz13_16 : w10.cell? ⟨gb151, 16, none⟩ = some (.slice A0_16 l0_16.length c0_16) := (blk_cell BK151.out 16).trans rfl; have hcz13_17 : w10.cell? ⟨gb151, 17, none⟩ = some (.int .i64 a0_17) := (blk_cell BK151.out 17).trans rfl; have hcz13_18 : w10.cell? ⟨gb151, 18, none⟩ = some (.int .i64 a0_18) := (blk_cell BK151.out 18).trans rfl; have hfz13_0 := blk_frozen BK151.out 0; have hfz13_1 := blk_frozen BK151.out 1; have hfz13_2 := blk_frozen BK151.out 2; have hfz13_3 := blk_frozen BK151.out 3; have hfz13_4 := blk_frozen BK151.out 4; have hfz13_5 := blk_frozen BK151.out 5; have hfz13_6 := blk_frozen BK151.out 6; have hfz13_7 := blk_frozen BK151.out 7; have hfz13_8 := blk_frozen BK151.out 8; have hfz13_9 := blk_frozen BK151.out 9; have hfz13_10 := blk_frozen BK151.out 10; have hfz13_11 := blk_frozen BK151.out 11; have hfz13_12 := blk_frozen BK151.out 12; have hfz13_13 := blk_frozen BK151.out 13; have hfz13_14 := blk_frozen BK151.out 14; have hfz13_15 := blk_frozen BK151.out 15; have hfz13_16 := blk_frozen BK151.out 16; have hfz13_17 := blk_frozen BK151.out 17; have hfz13_18 := blk_frozen BK151.out 18) | (go_at_call 43; (with_reducible refine (headseg_within.calls k 1 65536 _ _ l0_16 t157 _ ?side1 ?side2 A7.out).mono ?_); (case side1 => repeat (first | exact (Kd.C_below HR0_16.out (by repeat (first | (with_reducible first | exact HB.out | apply below_alloc | apply pw_below_drewN | apply below_drew1 | refine below_set ?_ GE151.out | refine below_set ?_ GE152.out) | exact HB.out))) | (with_reducible refine Kd.C_alloc ?_ _) | (with_reducible refine Kd.C_drewN ?_ _) | (with_reducible refine Kd.C_drew ?_))); (case side2 => exact HC0_16.out); rintro e w' ⟨rfl, ⟨nd, rfl⟩⟩))
      go_meet
      case rel => exact ⟨_, (!t157), (by first | rfl | (simp; done) | (simp [*]; done)), H', ⟨by first | omega | exact Nat.le_refl _⟩, ⟨by (with_reducible repeat (first | refine blk_drewN ?_ _ | refine blk_drew ?_ | refine blk_alloc ?_ _)); exact BK151.out⟩, ⟨by (with_reducible repeat (first | refine blk_drewN ?_ _ | refine blk_drew ?_ | refine blk_alloc ?_ _)); exact BK152.out⟩, ⟨by repeat (first | (with_reducible first | exact HB.out | apply below_alloc | apply pw_below_drewN | apply below_drew1 | refine below_set ?_ GE151.out | refine below_set ?_ GE152.out) | exact HB.out)⟩⟩
    · replace c6 := Bool.eq_false_iff.mpr c6
      subst c6
      have H1 : (headseg_Quant.j0 k true a0_0 a0_1 a0_2 a0_3 a0_4 l0_5 a0_6 a0_7 a0_8 a0_9 a0_10 a0_11 a0_12 a0_13 a0_14 a0_15 l0_16 a0_17 a0_18) = some (r1, r2, r3) := by rw [if_neg (show ¬ (false = true) by decide)] at H; exact H
      clear H
      have H := H1
      clear H1
      have H' := Aside0.mk H
      clear H
      have hnb14 := NB151_152.out
      have hnc14 := NB152_151.out
      have hcz15_0 : w4.cell? ⟨gb151, 0, none⟩ = some (.int .i64 a0_0) := (blk_cell BK151.out 0).trans rfl
      have hcz15_1 : w4.cell? ⟨gb151, 1, none⟩ = some (.int .i64 a0_1) := (blk_cell BK151.out 1).trans rfl
      have hcz15_2 : w4.cell? ⟨gb151, 2, none⟩ = some (.int .i64 a0_2) := (blk_cell BK151.out 2).trans rfl
      have hcz15_3 : w4.cell? ⟨gb151, 3, none⟩ = some (.int .i64 a0_3) := (blk_cell BK151.out 3).trans rfl
      have hcz15_4 : w4.cell? ⟨gb151, 4, none⟩ = some (.int .i64 a0_4) := (blk_cell BK151.out 4).trans rfl
      have hcz15_5 : w4.cell? ⟨gb151, 5, none⟩ = some (.slice A0_5 l0_5.length c0_5) := (blk_cell BK151.out 5).trans rfl
      have hcz15_6 : w4.cell? ⟨gb151, 6, none⟩ = some (.int .i64 a0_6) := (blk_cell BK151.out 6).trans rfl
      have hcz15_7 : w4.cell? ⟨gb151, 7, none⟩ = some (.int .i64 a0_7) := (blk_cell BK151.out 7).trans rfl
      have hcz15_8 : w4.cell? ⟨gb151, 8, none⟩ = some (.bool a0_8) := (blk_cell BK151.out 8).trans rfl
      have hcz15_9 : w4.cell? ⟨gb151, 9, none⟩ = some (.bool a0_9) := (blk_cell BK151.out 9).trans rfl
      have hcz15_10 : w4.cell? ⟨gb151, 10, none⟩ = some (.bool a0_10) := (blk_cell BK151.out 10).trans rfl
      have hcz15_11 : w4.cell? ⟨gb151, 11, none⟩ = some (.bool a0_11) := (blk_cell BK151.out 11).trans rfl
      have hcz15_12 : w4.cell? ⟨gb151, 12, none⟩ = some (.bool a0_12) := (blk_cell BK151.out 12).trans rfl
      have hcz15_13 : w4.cell? ⟨gb151, 13, none⟩ = some (.bool a0_13) := (blk_cell BK151.out 13).trans rfl
      have hcz15_14 : w4.cell? ⟨gb151, 14, none⟩ = some (.bool a0_14) := (blk_cell BK151.out 14).trans rfl
      have hcz15_15 : w4.cell? ⟨gb151, 15, none⟩ = some (.bool a0_15) := (blk_cell BK151.out 15).trans rfl
      have hcz15_16 : w4.cell? ⟨gb151, 16, none⟩ = some (.slice A0_16 l0_16.length c0_16) := (blk_cell BK151.out 16).trans rfl
      have hcz15_17 : w4.cell? ⟨gb151, 17, none⟩ = some (.int .i64 a0_17) := (blk_cell BK151.out 17).trans rfl
      have hcz15_18 : w4.cell? ⟨gb151, 18, none⟩ = some (.int .i64 a0_18) := (blk_cell BK151.out 18).trans rfl
      have hfz15_0 := blk_frozen BK151.out 0
      have hfz15_1 := blk_frozen BK151.out 1
      have hfz15_2 := blk_frozen BK151.out 2
      have hfz15_3 := blk_frozen BK151.out 3
      have hfz15_4 := blk_frozen BK151.out 4
      have hfz15_5 := blk_frozen BK151.out 5
      have hfz15_6 := blk_frozen BK151.out 6
      have hfz15_7 := blk_frozen BK151.out 7
      have hfz15_8 := blk_frozen BK151.out 8
      have hfz15_9 := blk_frozen BK151.out 9
      have hfz15_10 := blk_frozen BK151.out 10
      have hfz15_11 := blk_frozen BK151.out 11
      have hfz15_12 := blk_frozen BK151.out 12
      have hfz15_13 := blk_frozen BK151.out 13
      have hfz15_14 := blk_frozen BK151.out 14
      have hfz15_15 := blk_frozen BK151.out 15
      have hfz15_16 := blk_frozen BK151.out 16
      have hfz15_17 := blk_frozen BK151.out 17
      have hfz15_18 := blk_frozen BK151.out 18
      go_wp2_with (first | ((with_reducible refine gate_dst (N := 12) rfl ?_); refine Kd.R_lit (Kd.int .i64) _ 3 ?hg (N := 12) ?hd (xs := ([a0_17, (l0_16.length : Int)] : List Int)) (inner := [.int .i64 a0_17, .int .i64 (l0_16.length : Int)]) (ok := fun _ => True) (okp := fun _ => True) ?hr ?hp (fun _ hk => hk) trivial (Below.refl _ _) (Nat.le_refl _) (by simp) ?_; (case hd => rfl); (case hg => rfl); (case hr => first | (go_simp; done) | (go_simp; rfl)); (case hp => exact (Reps.one (show Kd.M (Kd.int .i64) _ _ _ a0_17 [.int .i64 a0_17] from rfl) (Reps.one (show Kd.M (Kd.int .i64) _ _ _ (l0_16.length : Int) [.int .i64 (l0_16.length : Int)] from rfl) (Reps.none _ _)))); intro v154 w16 ho17 hb hg_ hnew_; clear hg_ hnew_; (first | rw [← Ny153.out] at ho17 | (simp only [Int.reduceToNat] at ho17; rw [← Ny153.out] at ho17)); have n0_ := Aside0.mk (Kd.R_lower ho17 (below_size (by repeat (first | (with_reducible first | exact HB.out | apply below_alloc | apply pw_below_drewN | apply below_drew1 | refine below_set ?_ GE151.out | refine below_set ?_ GE152.out) | exact HB.out)))); have n1_ := Aside0.mk (blk_below (g := gb151) (o := .cells #[.int .i64 a0_0, .int .i64 a0_1, .int .i64 a0_2, .int .i64 a0_3, .int .i64 a0_4, .slice A0_5 l0_5.length c0_5, .int .i64 a0_6, .int .i64 a0_7, .bool a0_8, .bool a0_9, .bool a0_10, .bool a0_11, .bool a0_12, .bool a0_13, .bool a0_14, .bool a0_15, .slice A0_16 l0_16.length c0_16, .int .i64 a0_17, .int .i64 a0_18] 55 (0, 0)) (by (with_reducible repeat (first | refine blk_drewN ?_ _ | refine blk_drew ?_ | refine blk_alloc ?_ _)); exact BK151.out) hb); have n2_ := Aside0.mk (blk_below (g := gb152) (o := .cells #[.int .i64 0, .slice none 0 0] 26 (0, 0)) (by (with_reducible repeat (first | refine blk_drewN ?_ _ | refine blk_drew ?_ | refine blk_alloc ?_ _)); exact BK152.out) hb); have n3_ := Aside0.mk (below_step (by repeat (first | (with_reducible first | exact HB.out | apply below_alloc | apply pw_below_drewN | apply below_drew1 | refine below_set ?_ GE151.out | refine below_set ?_ GE152.out) | exact HB.out)) hb); clear BK151; clear BK152; clear HB; have HO155 := n0_; have BK151 := n1_; have BK152 := n2_; have HB := n3_; clear n0_ n1_ n2_ n3_; clear hb ho17; obtain ⟨Ao18, co18, eo18⟩ := Kd.R_slice HO155.out; subst eo18) | ((with_reducible refine gate_callee (f := 43) rfl ?_); refine goesL_ (some 13) rfl rfl Try.func43 (by kernel_rfl) rfl #[.int .i64 0, .int .i64 255, .slice Ao18 y153.length co18] rfl (by (try simp only [List.map_toArray, List.map_cons, List.map_nil]); first | done | rfl | (simp only [List.length_drop, List.length_take]; rfl)) ?_; (with_reducible refine (headseg_within.calls k 0 255 _ _ y153 false _ ?side1 ?side2 A5.out).mono ?_); (case side1 => repeat (first | exact (Kd.R_reads' HO155.out).2.2 | (with_reducible refine Kd.C_alloc ?_ _) | (with_reducible refine Kd.C_drewN ?_ _) | (with_reducible refine Kd.C_drew ?_))); (case side2 => exact (Kd.R_reads' HO155.out).2.1); rintro e w' ⟨rfl, ⟨nd, rfl⟩⟩; refine ⟨_, rfl, ?_⟩))
      go_meet
      case rel => exact ⟨_, (true), (by first | rfl | (simp; done) | (simp [*]; done)), H', ⟨by first | omega | exact Nat.le_refl _⟩, ⟨by (with_reducible repeat (first | refine blk_drewN ?_ _ | refine blk_drew ?_ | refine blk_alloc ?_ _)); exact BK151.out⟩, ⟨by (with_reducible repeat (first | refine blk_drewN ?_ _ | refine blk_drew ?_ | refine blk_alloc ?_ _)); exact BK152.out⟩, ⟨by repeat (first | (with_reducible first | exact HB.out | apply below_alloc | apply pw_below_drewN | apply below_drew1 | refine below_set ?_ GE151.out | refine below_set ?_ GE152.out) | exact HB.out)⟩⟩
  case rest =>
    clear HC2
    try clear c1
    try clear c2
    try clear p2
    try clear c4
    try clear c6
    try clear c8
    try clear c14
    try clear hcz13_0
    try clear hcz13_1
    try clear hcz13_10
    try clear hcz13_11
    try clear hcz13_12
    try clear hcz13_13
    try clear hcz13_14
    try clear hcz13_15
    try clear hcz13_16
    try clear hcz13_17
    try clear hcz13_18
    try clear hcz13_2
    try clear hcz13_3
    try clear hcz13_4
    try clear hcz13_5
    try clear hcz13_6
    try clear hcz13_7
    try clear hcz13_8
    try clear hcz13_9
    try clear hcz15_0
    try clear hcz15_1
    try clear hcz15_10
    try clear hcz15_11
    try clear hcz15_12
    try clear hcz15_13
    try clear hcz15_14
    try clear hcz15_15
    try clear hcz15_16
    try clear hcz15_17
    try clear hcz15_18
    try clear hcz15_2
    try clear hcz15_3
    try clear hcz15_4
    try clear hcz15_5
    try clear hcz15_6
    try clear hcz15_7
    try clear hcz15_8
    try clear hcz15_9
    try clear hcz9_0
    try clear hcz9_1
    try clear hcz9_10
    try clear hcz9_11
    try clear hcz9_12
    try clear hcz9_13
    try clear hcz9_14
    try clear hcz9_15
    try clear hcz9_16
    try clear hcz9_17
    try clear hcz9_18
    try clear hcz9_2
    try clear hcz9_3
    try clear hcz9_4
    try clear hcz9_5
    try clear hcz9_6
    try clear hcz9_7
    try clear hcz9_8
    try clear hcz9_9
    try clear hfz13_0
    try clear hfz13_1
    try clear hfz13_10
    try clear hfz13_11
    try clear hfz13_12
    try clear hfz13_13
    try clear hfz13_14
    try clear hfz13_15
    try clear hfz13_16
    try clear hfz13_17
    try clear hfz13_18
    try clear hfz13_2
    try clear hfz13_3
    try clear hfz13_4
    try clear hfz13_5
    try clear hfz13_6
    try clear hfz13_7
    try clear hfz13_8
    try clear hfz13_9
    try clear hfz15_0
    try clear hfz15_1
    try clear hfz15_10
    try clear hfz15_11
    try clear hfz15_12
    try clear hfz15_13
    try clear hfz15_14
    try clear hfz15_15
    try clear hfz15_16
    try clear hfz15_17
    try clear hfz15_18
    try clear hfz15_2
    try clear hfz15_3
    try clear hfz15_4
    try clear hfz15_5
    try clear hfz15_6
    try clear hfz15_7
    try clear hfz15_8
    try clear hfz15_9
    try clear hfz9_0
    try clear hfz9_1
    try clear hfz9_10
    try clear hfz9_11
    try clear hfz9_12
    try clear hfz9_13
    try clear hfz9_14
    try clear hfz9_15
    try clear hfz9_16
    try clear hfz9_17
    try clear hfz9_18
    try clear hfz9_2
    try clear hfz9_3
    try clear hfz9_4
    try clear hfz9_5
    try clear hfz9_6
    try clear hfz9_7
    try clear hfz9_8
    try clear hfz9_9
    obtain ⟨kq, x20_1, rfl, HA, HJ1, BK151, BK152, HB⟩ := hcut
    cases kq with
    | zero => exact absurd HA.out (by simp [headseg_Quant.j0])
    | succ kj1 =>
      have H := HA.out
      clear HA
      simp only [headseg_Quant.j0] at H
      by_cases c19 : x20_1 = true
      · subst c19
        have H1 : (some (0, ([] : List Int), 2)) = some (r1, r2, r3) := by rw [if_pos rfl] at H; exact H
        clear H
        have H := H1
        clear H1
        simp only [Option.some.injEq, Prod.mk.injEq] at H
        obtain ⟨rfl, rfl, rfl⟩ := H
        have hnb20 := NB152_151.out
        have hnc20 := NB151_152.out
        have hcz21_0 : wc.cell? ⟨gb152, 0, none⟩ = some (.int .i64 0) := (blk_cell BK152.out 0).trans rfl
        have hcz21_1 : wc.cell? ⟨gb152, 1, none⟩ = some (.slice none 0 0) := (blk_cell BK152.out 1).trans rfl
        have hfz21_0 := blk_frozen BK152.out 0
        have hfz21_1 := blk_frozen BK152.out 1
        go_wp2
        refine bodyPost_ret (results_ct rfl _ _ gb152 26 #[.int .i64 0, .slice none 0 0] (0, 0) _ rfl (by (with_reducible repeat (first | refine blk_drewN ?_ _ | refine blk_drew ?_ | refine blk_alloc ?_ _)); refine blk_put (cs := #[.int .i64 0, .slice none 0 0]) ?_ 1 _ rfl; (with_reducible repeat (first | refine blk_drewN ?_ _ | refine blk_drew ?_ | refine blk_alloc ?_ _)); refine blk_put (cs := #[.int .i64 0, .slice none 0 0]) ?_ 0 _ rfl; (with_reducible repeat (first | refine blk_drewN ?_ _ | refine blk_drew ?_ | refine blk_alloc ?_ _)); exact BK152.out) Try.underlying26 rfl (by kernel_rfl)) rfl ?_
        exact ⟨_, by first | rfl | (simp [errW_none, errW_some] <;> rfl) | (simp [*, errW_none, errW_some] <;> rfl), by first | exact Kd.R_nil _ _ _ _ _ | exact Kd.N_nil _ _ _ _ _ | exact Kd.V_nil _ _ _ _ _ | exact Kd.Q_nil _ _ _ _ _ | exact Kd.S_nil _ _ _ _ _, by repeat (first | (with_reducible first | exact HB.out | apply below_alloc | apply pw_below_drewN | apply below_drew1 | refine below_set ?_ GE151.out | refine below_set ?_ GE152.out) | exact HB.out)⟩
      · replace c19 := Bool.eq_false_iff.mpr c19
        subst c19
        have H1 : (headseg_Quant.l0 kj1 (([(a0_17) % 256, ((l0_16.length : Int)) % 256] : List Int)) l0_16 (l0_16.length : Int) 0) = some (r1, r2, r3) := by rw [if_neg (show ¬ (false = true) by decide)] at H; exact H
        clear H
        have H := H1
        clear H1
        obtain ⟨y158, hy158⟩ : ∃ y_ : List Int, y_ = (([(a0_17) % 256, ((l0_16.length : Int)) % 256] : List Int)) := ⟨_, rfl⟩
        replace H : (headseg_Quant.l0 kj1 y158 l0_16 (l0_16.length : Int) 0) = some (r1, r2, r3) := by first | (rw [hy158]; with_reducible exact H) | (have H2_ := (Option.bind_some _ _).symm.trans H; rw [hy158]; with_reducible exact H2_) | (have H2_ := (Option.bind_some _ _).symm.trans H; with_reducible exact H2_) | with_reducible exact H | (rw [hy158]; exact H) | exact H
        have Ny158 := Aside0.mk hy158
        clear hy158
        have H' := Aside0.mk H
        clear H
        have hnb22 := NB151_152.out
        have hnc22 := NB152_151.out
        have hcz23_0 : wc.cell? ⟨gb151, 0, none⟩ = some (.int .i64 a0_0) := (blk_cell BK151.out 0).trans rfl
        have hcz23_1 : wc.cell? ⟨gb151, 1, none⟩ = some (.int .i64 a0_1) := (blk_cell BK151.out 1).trans rfl
        have hcz23_2 : wc.cell? ⟨gb151, 2, none⟩ = some (.int .i64 a0_2) := (blk_cell BK151.out 2).trans rfl
        have hcz23_3 : wc.cell? ⟨gb151, 3, none⟩ = some (.int .i64 a0_3) := (blk_cell BK151.out 3).trans rfl
        have hcz23_4 : wc.cell? ⟨gb151, 4, none⟩ = some (.int .i64 a0_4) := (blk_cell BK151.out 4).trans rfl
        have hcz23_5 : wc.cell? ⟨gb151, 5, none⟩ = some (.slice A0_5 l0_5.length c0_5) := (blk_cell BK151.out 5).trans rfl
        have hcz23_6 : wc.cell? ⟨gb151, 6, none⟩ = some (.int .i64 a0_6) := (blk_cell BK151.out 6).trans rfl
        have hcz23_7 : wc.cell? ⟨gb151, 7, none⟩ = some (.int .i64 a0_7) := (blk_cell BK151.out 7).trans rfl
        have hcz23_8 : wc.cell? ⟨gb151, 8, none⟩ = some (.bool a0_8) := (blk_cell BK151.out 8).trans rfl
        have hcz23_9 : wc.cell? ⟨gb151, 9, none⟩ = some (.bool a0_9) := (blk_cell BK151.out 9).trans rfl
        have hcz23_10 : wc.cell? ⟨gb151, 10, none⟩ = some (.bool a0_10) := (blk_cell BK151.out 10).trans rfl
        have hcz23_11 : wc.cell? ⟨gb151, 11, none⟩ = some (.bool a0_11) := (blk_cell BK151.out 11).trans rfl
        have hcz23_12 : wc.cell? ⟨gb151, 12, none⟩ = some (.bool a0_12) := (blk_cell BK151.out 12).trans rfl
        have hcz23_13 : wc.cell? ⟨gb151, 13, none⟩ = some (.bool a0_13) := (blk_cell BK151.out 13).trans rfl
        have hcz23_14 : wc.cell? ⟨gb151, 14, none⟩ = some (.bool a0_14) := (blk_cell BK151.out 14).trans rfl
        have hcz23_15 : wc.cell? ⟨gb151, 15, none⟩ = some (.bool a0_15) := (blk_cell BK151.out 15).trans rfl
        have hcz23_16 : wc.cell? ⟨gb151, 16, none⟩ = some (.slice A0_16 l0_16.length c0_16) := (blk_cell BK151.out 16).trans rfl
        have hcz23_17 : wc.cell? ⟨gb151, 17, none⟩ = some (.int .i64 a0_17) := (blk_cell BK151.out 17).trans rfl
        have hcz23_18 : wc.cell? ⟨gb151, 18, none⟩ = some (.int .i64 a0_18) := (blk_cell BK151.out 18).trans rfl
        have hfz23_0 := blk_frozen BK151.out 0
        have hfz23_1 := blk_frozen BK151.out 1
        have hfz23_2 := blk_frozen BK151.out 2
        have hfz23_3 := blk_frozen BK151.out 3
        have hfz23_4 := blk_frozen BK151.out 4
        have hfz23_5 := blk_frozen BK151.out 5
        have hfz23_6 := blk_frozen BK151.out 6
        have hfz23_7 := blk_frozen BK151.out 7
        have hfz23_8 := blk_frozen BK151.out 8
        have hfz23_9 := blk_frozen BK151.out 9
        have hfz23_10 := blk_frozen BK151.out 10
        have hfz23_11 := blk_frozen BK151.out 11
        have hfz23_12 := blk_frozen BK151.out 12
        have hfz23_13 := blk_frozen BK151.out 13
        have hfz23_14 := blk_frozen BK151.out 14
        have hfz23_15 := blk_frozen BK151.out 15
        have hfz23_16 := blk_frozen BK151.out 16
        have hfz23_17 := blk_frozen BK151.out 17
        have hfz23_18 := blk_frozen BK151.out 18
        go_wp2_with (first | ((with_reducible refine gate_dst (N := 29) rfl ?_); refine Kd.R_lit (Kd.int .u8) _ 5 ?hg (N := 29) ?hd (xs := ([(a0_17) % 256, ((l0_16.length : Int)) % 256] : List Int)) (inner := [.int .u8 ((a0_17) % 256), .int .u8 (((l0_16.length : Int)) % 256)]) (ok := fun _ => True) (okp := fun _ => True) ?hr ?hp (fun _ hk => hk) trivial (Below.refl _ _) (Nat.le_refl _) (by simp) ?_; (case hd => rfl); (case hg => rfl); (case hr => first | (go_simp; done) | (go_simp; rfl)); (case hp => exact (Reps.one (show Kd.M (Kd.int .u8) _ _ _ ((a0_17) % 256) [.int .u8 ((a0_17) % 256)] from rfl) (Reps.one (show Kd.M (Kd.int .u8) _ _ _ (((l0_16.length : Int)) % 256) [.int .u8 (((l0_16.length : Int)) % 256)] from rfl) (Reps.none _ _)))); intro v159 w24 ho25 hb hg_ hnew_; clear hg_ hnew_; (first | rw [← Ny158.out] at ho25 | (simp only [Int.reduceToNat] at ho25; rw [← Ny158.out] at ho25)); have n0_ := Aside0.mk (Kd.R_lower ho25 (below_size (by repeat (first | (with_reducible first | exact HB.out | apply below_alloc | apply pw_below_drewN | apply below_drew1 | refine below_set ?_ GE151.out | refine below_set ?_ GE152.out) | exact HB.out)))); have n1_ := Aside0.mk (blk_below (g := gb151) (o := .cells #[.int .i64 a0_0, .int .i64 a0_1, .int .i64 a0_2, .int .i64 a0_3, .int .i64 a0_4, .slice A0_5 l0_5.length c0_5, .int .i64 a0_6, .int .i64 a0_7, .bool a0_8, .bool a0_9, .bool a0_10, .bool a0_11, .bool a0_12, .bool a0_13, .bool a0_14, .bool a0_15, .slice A0_16 l0_16.length c0_16, .int .i64 a0_17, .int .i64 a0_18] 55 (0, 0)) (by (with_reducible repeat (first | refine blk_drewN ?_ _ | refine blk_drew ?_ | refine blk_alloc ?_ _)); exact BK151.out) hb); have n2_ := Aside0.mk (blk_below (g := gb152) (o := .cells #[.int .i64 0, .slice none 0 0] 26 (0, 0)) (by (with_reducible repeat (first | refine blk_drewN ?_ _ | refine blk_drew ?_ | refine blk_alloc ?_ _)); exact BK152.out) hb); have n3_ := Aside0.mk (below_step (by repeat (first | (with_reducible first | exact HB.out | apply below_alloc | apply pw_below_drewN | apply below_drew1 | refine below_set ?_ GE151.out | refine below_set ?_ GE152.out) | exact HB.out)) hb); clear BK151; clear BK152; clear HB; have HO160 := n0_; have BK151 := n1_; have BK152 := n2_; have HB := n3_; clear n0_ n1_ n2_ n3_; clear hb ho25; have hcz26_0 : w24.cell? ⟨gb151, 0, none⟩ = some (.int .i64 a0_0) := (blk_cell BK151.out 0).trans rfl; have hcz26_1 : w24.cell? ⟨gb151, 1, none⟩ = some (.int .i64 a0_1) := (blk_cell BK151.out 1).trans rfl; have hcz26_2 : w24.cell? ⟨gb151, 2, none⟩ = some (.int .i64 a0_2) := (blk_cell BK151.out 2).trans rfl; have hcz26_3 : w24.cell? ⟨gb151, 3, none⟩ = some (.int .i64 a0_3) := (blk_cell BK151.out 3).trans rfl; have hcz26_4 : w24.cell? ⟨gb151, 4, none⟩ = some (.int .i64 a0_4) := (blk_cell BK151.out 4).trans rfl; have hcz26_5 : w24.cell? ⟨gb151, 5, none⟩ = some (.slice A0_5 l0_5.length c0_5) := (blk_cell BK151.out 5).trans rfl; have hcz26_6 : w24.cell? ⟨gb151, 6, none⟩ = some (.int .i64 a0_6) := (blk_cell BK151.out 6).trans rfl; have hcz26_7 : w24.cell? ⟨gb151, 7, none⟩ = some (.int .i64 a0_7) := (blk_cell BK151.out 7).trans rfl; have hcz26_8 : w24.cell? ⟨gb151, 8, none⟩ = some (.bool a0_8) := (blk_cell BK151.out 8).trans rfl; have hcz26_9 : w24.cell? ⟨gb151, 9, none⟩ = some (.bool a0_9) := (blk_cell BK151.out 9).trans rfl; have hcz26_10 : w24.cell? ⟨gb151, 10, none⟩ = some (.bool a0_10) := (blk_cell BK151.out 10).trans rfl; have hcz26_11 : w24.cell? ⟨gb151, 11, none⟩ = some (.bool a0_11) := (blk_cell BK151.out 11).trans rfl; have hcz26_12 : w24.cell? ⟨gb151, 12, none⟩ = some (.bool a0_12) := (blk_cell BK151.out 12).trans rfl; have hcz26_13 : w24.cell? ⟨gb151, 13, none⟩ = some (.bool a0_13) := (blk_cell BK151.out 13).trans rfl; have hcz26_14 : w24.cell? ⟨gb151, 14, none⟩ = some (.bool a0_14) := (blk_cell BK151.out 14).trans rfl; have hcz26_15 : w24.cell? ⟨gb151, 15, none⟩ = some (.bool a0_15) := (blk_cell BK151.out 15).trans rfl; have hcz26_16 : w24.cell? ⟨gb151, 16, none⟩ = some (.slice A0_16 l0_16.length c0_16) := (blk_cell BK151.out 16).trans rfl; have hcz26_17 : w24.cell? ⟨gb151, 17, none⟩ = some (.int .i64 a0_17) := (blk_cell BK151.out 17).trans rfl; have hcz26_18 : w24.cell? ⟨gb151, 18, none⟩ = some (.int .i64 a0_18) := (blk_cell BK151.out 18).trans rfl; have hfz26_0 := blk_frozen BK151.out 0; have hfz26_1 := blk_frozen BK151.out 1; have hfz26_2 := blk_frozen BK151.out 2; have hfz26_3 := blk_frozen BK151.out 3; have hfz26_4 := blk_frozen BK151.out 4; have hfz26_5 := blk_frozen BK151.out 5; have hfz26_6 := blk_frozen BK151.out 6; have hfz26_7 := blk_frozen BK151.out 7; have hfz26_8 := blk_frozen BK151.out 8; have hfz26_9 := blk_frozen BK151.out 9; have hfz26_10 := blk_frozen BK151.out 10; have hfz26_11 := blk_frozen BK151.out 11; have hfz26_12 := blk_frozen BK151.out 12; have hfz26_13 := blk_frozen BK151.out 13; have hfz26_14 := blk_frozen BK151.out 14; have hfz26_15 := blk_frozen BK151.out 15; have hfz26_16 := blk_frozen BK151.out 16; have hfz26_17 := blk_frozen BK151.out 17; have hfz26_18 := blk_frozen BK151.out 18))
        go_loopg [4, 33] kj1 (fun kq v4 v33 w' => ∃ (x4_2 : List Int) (x33_2 : Int), v33 = .int .i64 x33_2 ∧ Aside0 (headseg_Quant.l0 kq x4_2 l0_16 (l0_16.length : Int) x33_2 = some (r1, r2, r3)) ∧ Aside0 (kq ≤ kj1) ∧ Aside0 (Kd.R (Kd.int .u8) 5 w' w.heap.size (fun _ => True) v4 x4_2) ∧ Aside0 (w'.heap[gb151]? = some (.cells #[.int .i64 a0_0, .int .i64 a0_1, .int .i64 a0_2, .int .i64 a0_3, .int .i64 a0_4, (.slice A0_5 l0_5.length c0_5), .int .i64 a0_6, .int .i64 a0_7, .bool a0_8, .bool a0_9, .bool a0_10, .bool a0_11, .bool a0_12, .bool a0_13, .bool a0_14, .bool a0_15, (.slice A0_16 l0_16.length c0_16), .int .i64 a0_17, .int .i64 a0_18] 55 (0, 0))) ∧ Aside0 (w'.heap[gb152]? = some (.cells #[.int .i64 0, (.slice none 0 0)] 26 (0, 0))) ∧ Aside0 (Below w.heap.size w w'))
        case atStart => exact ⟨(y158), (0), (by first | rfl | (simp; done) | (simp [*]; done)), H', ⟨Nat.le_refl _⟩, ⟨by (with_reducible repeat (first | apply Kd.R_alloc | apply Kd.R_drewN | apply Kd.R_drew)); exact HO160.out⟩, ⟨by (with_reducible repeat (first | refine blk_drewN ?_ _ | refine blk_drew ?_ | refine blk_alloc ?_ _)); exact BK151.out⟩, ⟨by (with_reducible repeat (first | refine blk_drewN ?_ _ | refine blk_drew ?_ | refine blk_alloc ?_ _)); exact BK152.out⟩, ⟨by repeat (first | (with_reducible first | exact HB.out | apply below_alloc | apply pw_below_drewN | apply below_drew1 | refine below_set ?_ GE151.out | refine below_set ?_ GE152.out) | exact HB.out)⟩⟩
        case round =>
          clear H'
          try clear c1
          try clear c2
          try clear p2
          try clear c4
          try clear c6
          try clear c8
          try clear c14
          try clear c19
          try clear c20
          try clear c22
          try clear hcz13_0
          try clear hcz13_1
          try clear hcz13_10
          try clear hcz13_11
          try clear hcz13_12
          try clear hcz13_13
          try clear hcz13_14
          try clear hcz13_15
          try clear hcz13_16
          try clear hcz13_17
          try clear hcz13_18
          try clear hcz13_2
          try clear hcz13_3
          try clear hcz13_4
          try clear hcz13_5
          try clear hcz13_6
          try clear hcz13_7
          try clear hcz13_8
          try clear hcz13_9
          try clear hcz15_0
          try clear hcz15_1
          try clear hcz15_10
          try clear hcz15_11
          try clear hcz15_12
          try clear hcz15_13
          try clear hcz15_14
          try clear hcz15_15
          try clear hcz15_16
          try clear hcz15_17
          try clear hcz15_18
          try clear hcz15_2
          try clear hcz15_3
          try clear hcz15_4
          try clear hcz15_5
          try clear hcz15_6
          try clear hcz15_7
          try clear hcz15_8
          try clear hcz15_9
          try clear hcz21_0
          try clear hcz21_1
          try clear hcz23_0
          try clear hcz23_1
          try clear hcz23_10
          try clear hcz23_11
          try clear hcz23_12
          try clear hcz23_13
          try clear hcz23_14
          try clear hcz23_15
          try clear hcz23_16
          try clear hcz23_17
          try clear hcz23_18
          try clear hcz23_2
          try clear hcz23_3
          try clear hcz23_4
          try clear hcz23_5
          try clear hcz23_6
          try clear hcz23_7
          try clear hcz23_8
          try clear hcz23_9
          try clear hcz26_0
          try clear hcz26_1
          try clear hcz26_10
          try clear hcz26_11
          try clear hcz26_12
          try clear hcz26_13
          try clear hcz26_14
          try clear hcz26_15
          try clear hcz26_16
          try clear hcz26_17
          try clear hcz26_18
          try clear hcz26_2
          try clear hcz26_3
          try clear hcz26_4
          try clear hcz26_5
          try clear hcz26_6
          try clear hcz26_7
          try clear hcz26_8
          try clear hcz26_9
          try clear hcz9_0
          try clear hcz9_1
          try clear hcz9_10
          try clear hcz9_11
          try clear hcz9_12
          try clear hcz9_13
          try clear hcz9_14
          try clear hcz9_15
          try clear hcz9_16
          try clear hcz9_17
          try clear hcz9_18
          try clear hcz9_2
          try clear hcz9_3
          try clear hcz9_4
          try clear hcz9_5
          try clear hcz9_6
          try clear hcz9_7
          try clear hcz9_8
          try clear hcz9_9
          try clear hfz13_0
          try clear hfz13_1
          try clear hfz13_10
          try clear hfz13_11
          try clear hfz13_12
          try clear hfz13_13
          try clear hfz13_14
          try clear hfz13_15
          try clear hfz13_16
          try clear hfz13_17
          try clear hfz13_18
          try clear hfz13_2
          try clear hfz13_3
          try clear hfz13_4
          try clear hfz13_5
          try clear hfz13_6
          try clear hfz13_7
          try clear hfz13_8
          try clear hfz13_9
          try clear hfz15_0
          try clear hfz15_1
          try clear hfz15_10
          try clear hfz15_11
          try clear hfz15_12
          try clear hfz15_13
          try clear hfz15_14
          try clear hfz15_15
          try clear hfz15_16
          try clear hfz15_17
          try clear hfz15_18
          try clear hfz15_2
          try clear hfz15_3
          try clear hfz15_4
          try clear hfz15_5
          try clear hfz15_6
          try clear hfz15_7
          try clear hfz15_8
          try clear hfz15_9
          try clear hfz21_0
          try clear hfz21_1
          try clear hfz23_0
          try clear hfz23_1
          try clear hfz23_10
          try clear hfz23_11
          try clear hfz23_12
          try clear hfz23_13
          try clear hfz23_14
          try clear hfz23_15
          try clear hfz23_16
          try clear hfz23_17
          try clear hfz23_18
          try clear hfz23_2
          try clear hfz23_3
          try clear hfz23_4
          try clear hfz23_5
          try clear hfz23_6
          try clear hfz23_7
          try clear hfz23_8
          try clear hfz23_9
          try clear hfz26_0
          try clear hfz26_1
          try clear hfz26_10
          try clear hfz26_11
          try clear hfz26_12
          try clear hfz26_13
          try clear hfz26_14
          try clear hfz26_15
          try clear hfz26_16
          try clear hfz26_17
          try clear hfz26_18
          try clear hfz26_2
          try clear hfz26_3
          try clear hfz26_4
          try clear hfz26_5
          try clear hfz26_6
          try clear hfz26_7
          try clear hfz26_8
          try clear hfz26_9
          try clear hfz9_0
          try clear hfz9_1
          try clear hfz9_10
          try clear hfz9_11
          try clear hfz9_12
          try clear hfz9_13
          try clear hfz9_14
          try clear hfz9_15
          try clear hfz9_16
          try clear hfz9_17
          try clear hfz9_18
          try clear hfz9_2
          try clear hfz9_3
          try clear hfz9_4
          try clear hfz9_5
          try clear hfz9_6
          try clear hfz9_7
          try clear hfz9_8
          try clear hfz9_9
          try clear p2
          obtain ⟨x4_2, x33_2, rfl, HA, HK2, HO_4, BK151, BK152, HB⟩ := hrel
          cases gk with
          | zero => exact absurd HA.out (by simp [headseg_Quant.l0])
          | succ k2 =>
            have H := HA.out
            clear HA
            simp only [headseg_Quant.l0] at H
            by_cases c27 : x33_2 < (l0_16.length : Int)
            · rw [if_pos c27] at H
              have c27b0 : decide (x33_2 < (l0_16.length : Int)) = true := decide_eq_true c27
              clear c27
              by_cases c28 : 0 ≤ x33_2
              · rw [if_pos c28] at H
                have c28b0 : decide (0 ≤ x33_2) = true := decide_eq_true c28
                clear c28
                by_cases c29 : x33_2 < (l0_16.length : Int)
                · rw [if_pos c29] at H
                  have c29b0 : decide (x33_2 < (l0_16.length : Int)) = true := decide_eq_true c29
                  clear c29
                  replace H := Option.bind_eq_some_iff.mp H
                  obtain ⟨t162, A300, H⟩ := H
                  replace H : (headseg_Quant.l0 k2 t162 l0_16 (l0_16.length : Int) (wrap64 (x33_2 + 1))) = some (r1, r2, r3) := H
                  have A30 := Aside0.mk A300
                  clear A300
                  have H' := Aside0.mk H
                  clear H
                  have p161 : 0 ≤ (x33_2 : Int) := of_decide_eq_true (by first | (with_reducible assumption) | assumption)
                  have q161 : x33_2 < (l0_16.length : Int) := of_decide_eq_true (by first | (with_reducible assumption) | assumption)
                  obtain ⟨ad161, e161, hx161_0⟩ := Kd.at_int HR0_16.out x33_2 p161 q161
                  cases e161
                  replace hx161_0 := (HB.out.cell (World.block_lt_of_cell? w _ hx161_0)).trans hx161_0
                  replace p161 := eq_true p161
                  replace q161 := eq_true q161
                  obtain ⟨Ao31, co31, eo31⟩ := Kd.R_slice HO_4.out
                  subst eo31
                  go_wp2_with (first | ((with_reducible refine gate_callee (f := 44) rfl ?_); refine goesL_ (some 40) rfl rfl Try.func44 (by kernel_rfl) rfl #[.slice Ao31 x4_2.length co31, .int .i64 2, .int .i64 (wrap64 ((rd l0_16 x33_2) - 1))] rfl (by (try simp only [List.map_toArray, List.map_cons, List.map_nil]); first | done | rfl | (simp only [List.length_drop, List.length_take]; rfl)) ?_; (with_reducible refine (headseg_put.calls k2 (fun k_ => some k_ = (.slice Ao31 x4_2.length co31 : Value).ownBlock) (.slice Ao31 x4_2.length co31) x4_2 2 (wrap64 ((rd l0_16 x33_2) - 1)) t162 w _ ?side1 ?side2 A30.out).mono ?_); (case side1 => repeat (first | (with_reducible first | exact HB.out | apply below_alloc | apply pw_below_drewN | apply below_drew1 | refine below_set ?_ GE151.out | refine below_set ?_ GE152.out) | exact HB.out)); (case side2 => exact Kd.R_tight rfl HO_4.out); rintro e w32 ⟨v163, rfl, ho0, hb, hkp⟩; refine ⟨_, rfl, ?_⟩; have n0_ := Aside0.mk (blk_kept (by (with_reducible repeat (first | refine blk_drewN ?_ _ | refine blk_drew ?_ | refine blk_alloc ?_ _)); exact BK151.out) hkp (fun hs_ => (fun e_ => (Kd.R_ne HO_4.out BK151.out (by decide)) e_) hs_)); have n1_ := Aside0.mk (blk_kept (by (with_reducible repeat (first | refine blk_drewN ?_ _ | refine blk_drew ?_ | refine blk_alloc ?_ _)); exact BK152.out) hkp (fun hs_ => (fun e_ => (Kd.R_ne HO_4.out BK152.out (by decide)) e_) hs_)); have n2_ := Aside0.mk (Kd.R_mono (ok' := fun k_ => True) ho0 (fun k_ hk_ => trivial)); have n3_ := Aside0.mk (hb); clear BK151; clear BK152; clear HB; clear HO_4; have BK151 := n0_; have BK152 := n1_; have HO164 := n2_; have HB := n3_; clear n0_ n1_ n2_ n3_; (try clear hb); (try clear hkp); (try clear ho0)))
                  go_roundg k2
                  case measure => have := HJ1.out; have := HK2.out; omega
                  case rel => exact ⟨(t162), (wrap64 (x33_2 + 1)), (by first | rfl | (simp; done) | (simp [*]; done)), H', ⟨by have := HJ1.out; have := HK2.out; omega⟩, ⟨by (with_reducible repeat (first | apply Kd.R_alloc | apply Kd.R_drewN | apply Kd.R_drew)); exact HO164.out⟩, ⟨by (with_reducible repeat (first | refine blk_drewN ?_ _ | refine blk_drew ?_ | refine blk_alloc ?_ _)); exact BK151.out⟩, ⟨by (with_reducible repeat (first | refine blk_drewN ?_ _ | refine blk_drew ?_ | refine blk_alloc ?_ _)); exact BK152.out⟩, ⟨by repeat (first | (with_reducible first | exact HB.out | apply below_alloc | apply pw_below_drewN | apply below_drew1 | refine below_set ?_ GE151.out | refine below_set ?_ GE152.out) | exact HB.out)⟩⟩
                · rw [if_neg c29] at H
                  exact absurd H (by simp)
              · rw [if_neg c28] at H
                exact absurd H (by simp)
            · rw [if_neg c27] at H
              have c27b0 : decide (x33_2 < (l0_16.length : Int)) = false := decide_eq_false c27
              clear c27
              simp only [Option.some.injEq, Prod.mk.injEq] at H
              obtain ⟨rfl, rfl, rfl⟩ := H
              obtain ⟨Ao33, co33, eo33⟩ := Kd.R_slice HO_4.out
              subst eo33
              have hnb34 := NB152_151.out
              have hnc34 := NB151_152.out
              have hcz35_0 : wr.cell? ⟨gb152, 0, none⟩ = some (.int .i64 0) := (blk_cell BK152.out 0).trans rfl
              have hcz35_1 : wr.cell? ⟨gb152, 1, none⟩ = some (.slice none 0 0) := (blk_cell BK152.out 1).trans rfl
              have hfz35_0 := blk_frozen BK152.out 0
              have hfz35_1 := blk_frozen BK152.out 1
              go_wp2
              refine bodyPost_ret (results_ct rfl _ _ gb152 26 #[.int .i64 65443, .slice Ao33 x4_2.length co33] (0, 0) _ rfl (by (with_reducible repeat (first | refine blk_drewN ?_ _ | refine blk_drew ?_ | refine blk_alloc ?_ _)); refine blk_put (cs := #[.int .i64 65443, .slice none 0 0]) ?_ 1 _ rfl; (with_reducible repeat (first | refine blk_drewN ?_ _ | refine blk_drew ?_ | refine blk_alloc ?_ _)); refine blk_put (cs := #[.int .i64 0, .slice none 0 0]) ?_ 0 _ rfl; (with_reducible repeat (first | refine blk_drewN ?_ _ | refine blk_drew ?_ | refine blk_alloc ?_ _)); exact BK152.out) Try.underlying26 rfl (by kernel_rfl)) rfl ?_
              exact ⟨_, by first | rfl | (simp [errW_none, errW_some] <;> rfl) | (simp [*, errW_none, errW_some] <;> rfl), by (with_reducible repeat (first | apply Kd.R_alloc | apply Kd.R_drewN | apply Kd.R_drew)); exact Kd.R_mono (Kd.R_far (p := ⟨gb152, 1, none⟩) (Kd.R_far (p := ⟨gb152, 0, none⟩) (Kd.R_types HO_4.out BK152.out (by decide)) (fun _ hk => hk.2) (.int .i64 65443)) (fun _ hk => hk.2) (.slice Ao33 x4_2.length co33)) (fun _ hk => trivial), by repeat (first | (with_reducible first | exact HB.out | apply below_alloc | apply pw_below_drewN | apply below_drew1 | refine below_set ?_ GE151.out | refine below_set ?_ GE152.out) | exact HB.out)⟩

end Go.Proofs.Ytihfopblmjgfaaa.Q
