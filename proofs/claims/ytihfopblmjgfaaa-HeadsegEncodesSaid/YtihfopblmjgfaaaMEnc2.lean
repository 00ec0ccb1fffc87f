/- Texts of this session (words and printed walks, merged by wip/tools/merge.py) for the statement of the claim. -/
import Derived.Test.YtihfopblmjgfaaaMEnc1
import Derived.Deep.MidRow
/- ParseCoding: its closures, and the function. Printed by wip/tools/genPCod.py of this session. -/
namespace Go.Proofs.Ytihfopblmjgfaaa.Q
open Go.RowKit Go.Proofs.YtihfopblmjgfaaaW.PrintWords Go.Proofs.YtihfopblmjgfaaaW.PrintLast Go.Proofs.YtihfopblmjgfaaaW.PrintMore
set_option linter.unusedVariables false
set_option linter.unusedSimpArgs false

/-- A flag of a number. -/
def flag (f b : Int) : Bool := Go.bits .and .i64 (f / 2 ^ b.toNat) 1 == 1
set_option maxHeartbeats 4000000 in
set_option maxRecDepth 100000 in
theorem on_closure (g : Nat) (f : Int) (b : Int) (h0 : 0 ≤ b) (h7 : b ≤ 7) (w : World) (hb : w.heap[g]? = some (.cells #[.int .i64 f] 3 (0, 0))) :
    Calls Try.prog 59 #[.int .i64 b, .pointer (some ⟨g, 0, none⟩)] w fun e w' => e = .returned (.bool (flag f b)) ∧ w' = w := by
  have hc : w.cell? ⟨g, 0, none⟩ = some (.int .i64 f) := (blk_cell hb 0).trans rfl
  have hu : IntKind.u64.wrap b = b := by rw [IntKind.wrap_u64]; omega
  go_enter Try.func59, Try.ntmps59
  go_wp2
  go_ret
  exact ⟨rfl, rfl⟩
/-- The precincts: the error, the list, the place behind. -/
def codLoop : Nat → List Int → Int → Int → List S89 → Option (Int × List S89 × Int)
  | 0, _, _, _, _ => none
  | k + 1, l, p, n, xs => if n > 0 then (if xs.length < 8796093022207 then rdn k l p 1 (fun e => (e, [], 0)) (fun v => codLoop k l (wrap64 (p + 1)) (wrap64 (n - 1)) (xs ++ [⟨Go.bits .and .i64 v 15, v / 16⟩])) else none) else some (0, xs, p)
theorem codLoop.mono : ∀ k l p n xs, LeO (codLoop k l p n xs) (codLoop (k + 1) l p n xs)
  | 0, _, _, _, _ => LeO.none _
  | k + 1, l, p, n, xs => by
    rw [codLoop.eq_2, codLoop.eq_2]
    exact LeO.ite (LeO.ite (rdn_mono _ _ _ _ _ fun _ => codLoop.mono _ _ _ _ _) (LeO.refl _)) (LeO.refl _)
/-- What the closure reads: the seven numbers, the flags, the shift, the precincts, the place behind. -/
structure CodR where
  e : Int
  x0 : Int
  x1 : Int
  x2 : Int
  x3 : Int
  x4 : Int
  x5 : Int
  x6 : Int
  f : Int
  sh : Int
  t : List S89
  p : Int
def badCod (e : Int) : CodR := ⟨e, 0, 0, 0, 0, 0, 0, 0, 0, 0, [], 0⟩
def codRead (k : Nat) (l : List Int) : Option CodR :=
  rdn k l 0 1 badCod fun x0 => rdn k l 1 1 badCod fun x1 => rdn k l 2 1 badCod fun x2 => rdn k l 3 1 badCod fun x3 => rdn k l 4 1 badCod fun x4 => rdn k l 5 1 badCod fun x5 => rdn k l 6 1 badCod fun x6 => rdn k l 7 1 badCod fun f => rdn k l 8 1 badCod fun sh => rdn k l 9 1 badCod fun n => (codLoop k l 10 n []).bind fun t => some (if t.1 = 0 then ⟨0, x0, x1, x2, x3, x4, x5, x6, f, sh, t.2.1, t.2.2⟩ else badCod t.1)
theorem codRead.mono (k : Nat) (l : List Int) : LeO (codRead k l) (codRead (k + 1) l) :=
  rdn_mono _ _ _ _ _ fun _ => rdn_mono _ _ _ _ _ fun _ => rdn_mono _ _ _ _ _ fun _ => rdn_mono _ _ _ _ _ fun _ => rdn_mono _ _ _ _ _ fun _ => rdn_mono _ _ _ _ _ fun _ => rdn_mono _ _ _ _ _ fun _ => rdn_mono _ _ _ _ _ fun _ => rdn_mono _ _ _ _ _ fun _ => rdn_mono _ _ _ _ _ fun _ => LeO.bind (codLoop.mono _ _ _ _ _) fun _ => LeO.refl _

set_option maxHeartbeats 8000000 in
set_option maxRecDepth 100000 in
theorem cod_closure (k : Nat) (wb w1 : World) (A : Option Addr) (c : Nat) (l : List Int) (hC : Kd.C (Kd.int .u8) wb A l.length l) (hc : l.length ≤ c) (ra g : Nat) (hr1 : g ≠ ra) (l0 : wb.heap.size ≤ ra) (l1 : wb.heap.size ≤ g) (hlr : ra < w1.heap.size) (hlg : g < w1.heap.size)
    (hB : Below wb.heap.size wb w1) (br : w1.heap[ra]? = some (.cells #[.slice A l.length c, .int .i64 0] 102 (0, 0))) (b1 : w1.heap[g]? = some (.cells #[.int .i64 0, .int .i64 0, .int .i64 0, .int .i64 0, .int .i64 0, .slice none 0 0, .int .i64 0, .int .i64 0, .bool false, .bool false, .bool false, .bool false, .bool false, .bool false, .bool false, .bool false, .slice none 0 0, .int .i64 0, .int .i64 0] 55 (0, 0)))
    (z : CodR) (h : codRead k l = some z) :
    Calls Try.prog 58 #[.pointer (some ⟨ra, 0, none⟩), .pointer (some ⟨g, 0, none⟩)] w1 fun en w2 => Only (fun k => k = g ∨ k = ra) w1 w2 ∧
      ((∃ p, en = .returned (.tuple #[]) ∧ w2.heap[ra]? = some (.cells #[.slice A l.length c, .int .i64 p] 102 (0, 0)) ∧ (z.e = 0 ∧ p = z.p ∧ ∃ v, w2.heap[g]? = some (.cells #[.int .i64 z.x0, .int .i64 z.x1, .int .i64 z.x2, .int .i64 z.x3, .int .i64 z.x4, v, .int .i64 z.x5, .int .i64 z.x6, .bool (flag z.f 0), .bool (flag z.f 1), .bool (flag z.f 2), .bool (flag z.f 3), .bool (flag z.f 4), .bool (flag z.f 5), .bool (flag z.f 6), .bool (flag z.f 7), .slice none 0 0, .int .i64 0, .int .i64 z.sh] 55 (0, 0)) ∧ Kd.R k89 89 w2 wb.heap.size (fun k => w1.heap.size ≤ k) v z.t)) ∨
        ∃ e', en = .panicked [{ v := .iface 99 (.agg #[.int .i64 e']), recovered := false }] ∧ (e' = z.e ∧ z.e ≠ 0)) := by
  have H := Aside0.mk h
  have R := RS.mk (S := fun k => k = g ∨ k = ra) br hB (Only.refl _ w1)
  have B1 := Aside0.mk b1
  clear h br hB b1
  go_enter Try.func58, Try.ntmps58
  cases hq0 : marker_ReadUint.f k l 0 1 with
  | none => have h := H.out; simp [codRead, rdn, hq0] at h
  | some q0 =>
  obtain ⟨x_0, y_0⟩ := q0
  by_cases hy0 : y_0 = 0
  rotate_left
  · have h := H.out
    simp [codRead, rdn, badCod, hq0, hy0] at h
    have h' := Aside0.mk h
    clear h
    go_wp2_with (first | (go_at_call 49; (with_reducible refine (reader_uint.calls k ra A c l 0 1 x_0 y_0 _ R.br (Kd.C_below hC R.below) hc hq0).mono ?_); rintro en w' (⟨hne, _, _⟩ | ⟨_, rfl, hd⟩); exact absurd hne hy0))
    have h := h'.out
    subst h
    exact ⟨rfl, (R.drawn hd).only, .inr ⟨_, rfl, rfl, hy0⟩⟩
  go_wp2_with (first | (go_at_call 49; (with_reducible refine (reader_uint.calls k ra A c l 0 1 x_0 y_0 _ R.br (Kd.C_below hC R.below) hc hq0).mono ?_); rintro en w2 (⟨_, rfl, hd⟩ | ⟨hne, _, _⟩); rotate_left; (exact absurd hy0 hne); have R1 := R.read (p' := 1) l0 (.inr rfl) _ hd (by unfold wrap64; omega); have n1 := Aside0.mk (RS.far B1.out hr1 hd); clear B1 hd; have B1 := n1; clear n1; have hcg : w2.cell? ⟨g, 0, none⟩ = some (.int .i64 0) := (blk_cell B1.out 0).trans rfl; have hzg := blk_frozen B1.out 0))
  clear hcg hzg
  replace R1 := R1.store l1 (.inl rfl) hr1 0 (.int .i64 x_0)
  replace B1 := Aside0.mk (blk_put (cs' := #[.int .i64 x_0, .int .i64 0, .int .i64 0, .int .i64 0, .int .i64 0, .slice none 0 0, .int .i64 0, .int .i64 0, .bool false, .bool false, .bool false, .bool false, .bool false, .bool false, .bool false, .bool false, .slice none 0 0, .int .i64 0, .int .i64 0]) B1.out 0 (.int .i64 x_0) rfl)
  cases hq1 : marker_ReadUint.f k l 1 1 with
  | none => have h := H.out; simp [codRead, rdn, hq0, hy0, hq1] at h
  | some q1 =>
  obtain ⟨x_1, y_1⟩ := q1
  by_cases hy1 : y_1 = 0
  rotate_left
  · have h := H.out
    simp [codRead, rdn, badCod, hq0, hy0, hq1, hy1] at h
    have h' := Aside0.mk h
    clear h
    go_wp2_with (first | (go_at_call 49; (with_reducible refine (reader_uint.calls k ra A c l 1 1 x_1 y_1 _ R1.br (Kd.C_below hC R1.below) hc hq1).mono ?_); rintro en w' (⟨hne, _, _⟩ | ⟨_, rfl, hd⟩); exact absurd hne hy1))
    have h := h'.out
    subst h
    exact ⟨rfl, (R1.drawn hd).only, .inr ⟨_, rfl, rfl, hy1⟩⟩
  go_wp2_with (first | (go_at_call 49; (with_reducible refine (reader_uint.calls k ra A c l 1 1 x_1 y_1 _ R1.br (Kd.C_below hC R1.below) hc hq1).mono ?_); rintro en w3 (⟨_, rfl, hd⟩ | ⟨hne, _, _⟩); rotate_left; (exact absurd hy1 hne); have R2 := R1.read (p' := 2) l0 (.inr rfl) _ hd (by unfold wrap64; omega); have n1 := Aside0.mk (RS.far B1.out hr1 hd); clear B1 hd; have B1 := n1; clear n1; have hcg : w3.cell? ⟨g, 1, none⟩ = some (.int .i64 0) := (blk_cell B1.out 1).trans rfl; have hzg := blk_frozen B1.out 1))
  clear hcg hzg
  replace R2 := R2.store l1 (.inl rfl) hr1 1 (.int .i64 x_1)
  replace B1 := Aside0.mk (blk_put (cs' := #[.int .i64 x_0, .int .i64 x_1, .int .i64 0, .int .i64 0, .int .i64 0, .slice none 0 0, .int .i64 0, .int .i64 0, .bool false, .bool false, .bool false, .bool false, .bool false, .bool false, .bool false, .bool false, .slice none 0 0, .int .i64 0, .int .i64 0]) B1.out 1 (.int .i64 x_1) rfl)
  cases hq2 : marker_ReadUint.f k l 2 1 with
  | none => have h := H.out; simp [codRead, rdn, hq0, hy0, hq1, hy1, hq2] at h
  | some q2 =>
  obtain ⟨x_2, y_2⟩ := q2
  by_cases hy2 : y_2 = 0
  rotate_left
  · have h := H.out
    simp [codRead, rdn, badCod, hq0, hy0, hq1, hy1, hq2, hy2] at h
    have h' := Aside0.mk h
    clear h
    go_wp2_with (first | (go_at_call 49; (with_reducible refine (reader_uint.calls k ra A c l 2 1 x_2 y_2 _ R2.br (Kd.C_below hC R2.below) hc hq2).mono ?_); rintro en w' (⟨hne, _, _⟩ | ⟨_, rfl, hd⟩); exact absurd hne hy2))
    have h := h'.out
    subst h
    exact ⟨rfl, (R2.drawn hd).only, .inr ⟨_, rfl, rfl, hy2⟩⟩
  go_wp2_with (first | (go_at_call 49; (with_reducible refine (reader_uint.calls k ra A c l 2 1 x_2 y_2 _ R2.br (Kd.C_below hC R2.below) hc hq2).mono ?_); rintro en w4 (⟨_, rfl, hd⟩ | ⟨hne, _, _⟩); rotate_left; (exact absurd hy2 hne); have R3 := R2.read (p' := 3) l0 (.inr rfl) _ hd (by unfold wrap64; omega); have n1 := Aside0.mk (RS.far B1.out hr1 hd); clear B1 hd; have B1 := n1; clear n1; have hcg : w4.cell? ⟨g, 2, none⟩ = some (.int .i64 0) := (blk_cell B1.out 2).trans rfl; have hzg := blk_frozen B1.out 2))
  clear hcg hzg
  replace R3 := R3.store l1 (.inl rfl) hr1 2 (.int .i64 x_2)
  replace B1 := Aside0.mk (blk_put (cs' := #[.int .i64 x_0, .int .i64 x_1, .int .i64 x_2, .int .i64 0, .int .i64 0, .slice none 0 0, .int .i64 0, .int .i64 0, .bool false, .bool false, .bool false, .bool false, .bool false, .bool false, .bool false, .bool false, .slice none 0 0, .int .i64 0, .int .i64 0]) B1.out 2 (.int .i64 x_2) rfl)
  cases hq3 : marker_ReadUint.f k l 3 1 with
  | none => have h := H.out; simp [codRead, rdn, hq0, hy0, hq1, hy1, hq2, hy2, hq3] at h
  | some q3 =>
  obtain ⟨x_3, y_3⟩ := q3
  by_cases hy3 : y_3 = 0
  rotate_left
  · have h := H.out
    simp [codRead, rdn, badCod, hq0, hy0, hq1, hy1, hq2, hy2, hq3, hy3] at h
    have h' := Aside0.mk h
    clear h
    go_wp2_with (first | (go_at_call 49; (with_reducible refine (reader_uint.calls k ra A c l 3 1 x_3 y_3 _ R3.br (Kd.C_below hC R3.below) hc hq3).mono ?_); rintro en w' (⟨hne, _, _⟩ | ⟨_, rfl, hd⟩); exact absurd hne hy3))
    have h := h'.out
    subst h
    exact ⟨rfl, (R3.drawn hd).only, .inr ⟨_, rfl, rfl, hy3⟩⟩
  go_wp2_with (first | (go_at_call 49; (with_reducible refine (reader_uint.calls k ra A c l 3 1 x_3 y_3 _ R3.br (Kd.C_below hC R3.below) hc hq3).mono ?_); rintro en w5 (⟨_, rfl, hd⟩ | ⟨hne, _, _⟩); rotate_left; (exact absurd hy3 hne); have R4 := R3.read (p' := 4) l0 (.inr rfl) _ hd (by unfold wrap64; omega); have n1 := Aside0.mk (RS.far B1.out hr1 hd); clear B1 hd; have B1 := n1; clear n1; have hcg : w5.cell? ⟨g, 3, none⟩ = some (.int .i64 0) := (blk_cell B1.out 3).trans rfl; have hzg := blk_frozen B1.out 3))
  clear hcg hzg
  replace R4 := R4.store l1 (.inl rfl) hr1 3 (.int .i64 x_3)
  replace B1 := Aside0.mk (blk_put (cs' := #[.int .i64 x_0, .int .i64 x_1, .int .i64 x_2, .int .i64 x_3, .int .i64 0, .slice none 0 0, .int .i64 0, .int .i64 0, .bool false, .bool false, .bool false, .bool false, .bool false, .bool false, .bool false, .bool false, .slice none 0 0, .int .i64 0, .int .i64 0]) B1.out 3 (.int .i64 x_3) rfl)
  cases hq4 : marker_ReadUint.f k l 4 1 with
  | none => have h := H.out; simp [codRead, rdn, hq0, hy0, hq1, hy1, hq2, hy2, hq3, hy3, hq4] at h
  | some q4 =>
  obtain ⟨x_4, y_4⟩ := q4
  by_cases hy4 : y_4 = 0
  rotate_left
  · have h := H.out
    simp [codRead, rdn, badCod, hq0, hy0, hq1, hy1, hq2, hy2, hq3, hy3, hq4, hy4] at h
    have h' := Aside0.mk h
    clear h
    go_wp2_with (first | (go_at_call 49; (with_reducible refine (reader_uint.calls k ra A c l 4 1 x_4 y_4 _ R4.br (Kd.C_below hC R4.below) hc hq4).mono ?_); rintro en w' (⟨hne, _, _⟩ | ⟨_, rfl, hd⟩); exact absurd hne hy4))
    have h := h'.out
    subst h
    exact ⟨rfl, (R4.drawn hd).only, .inr ⟨_, rfl, rfl, hy4⟩⟩
  go_wp2_with (first | (go_at_call 49; (with_reducible refine (reader_uint.calls k ra A c l 4 1 x_4 y_4 _ R4.br (Kd.C_below hC R4.below) hc hq4).mono ?_); rintro en w6 (⟨_, rfl, hd⟩ | ⟨hne, _, _⟩); rotate_left; (exact absurd hy4 hne); have R5 := R4.read (p' := 5) l0 (.inr rfl) _ hd (by unfold wrap64; omega); have n1 := Aside0.mk (RS.far B1.out hr1 hd); clear B1 hd; have B1 := n1; clear n1; have hcg : w6.cell? ⟨g, 4, none⟩ = some (.int .i64 0) := (blk_cell B1.out 4).trans rfl; have hzg := blk_frozen B1.out 4))
  clear hcg hzg
  replace R5 := R5.store l1 (.inl rfl) hr1 4 (.int .i64 x_4)
  replace B1 := Aside0.mk (blk_put (cs' := #[.int .i64 x_0, .int .i64 x_1, .int .i64 x_2, .int .i64 x_3, .int .i64 x_4, .slice none 0 0, .int .i64 0, .int .i64 0, .bool false, .bool false, .bool false, .bool false, .bool false, .bool false, .bool false, .bool false, .slice none 0 0, .int .i64 0, .int .i64 0]) B1.out 4 (.int .i64 x_4) rfl)
  cases hq5 : marker_ReadUint.f k l 5 1 with
  | none => have h := H.out; simp [codRead, rdn, hq0, hy0, hq1, hy1, hq2, hy2, hq3, hy3, hq4, hy4, hq5] at h
  | some q5 =>
  obtain ⟨x_5, y_5⟩ := q5
  by_cases hy5 : y_5 = 0
  rotate_left
  · have h := H.out
    simp [codRead, rdn, badCod, hq0, hy0, hq1, hy1, hq2, hy2, hq3, hy3, hq4, hy4, hq5, hy5] at h
    have h' := Aside0.mk h
    clear h
    go_wp2_with (first | (go_at_call 49; (with_reducible refine (reader_uint.calls k ra A c l 5 1 x_5 y_5 _ R5.br (Kd.C_below hC R5.below) hc hq5).mono ?_); rintro en w' (⟨hne, _, _⟩ | ⟨_, rfl, hd⟩); exact absurd hne hy5))
    have h := h'.out
    subst h
    exact ⟨rfl, (R5.drawn hd).only, .inr ⟨_, rfl, rfl, hy5⟩⟩
  go_wp2_with (first | (go_at_call 49; (with_reducible refine (reader_uint.calls k ra A c l 5 1 x_5 y_5 _ R5.br (Kd.C_below hC R5.below) hc hq5).mono ?_); rintro en w7 (⟨_, rfl, hd⟩ | ⟨hne, _, _⟩); rotate_left; (exact absurd hy5 hne); have R6 := R5.read (p' := 6) l0 (.inr rfl) _ hd (by unfold wrap64; omega); have n1 := Aside0.mk (RS.far B1.out hr1 hd); clear B1 hd; have B1 := n1; clear n1; have hcg : w7.cell? ⟨g, 6, none⟩ = some (.int .i64 0) := (blk_cell B1.out 6).trans rfl; have hzg := blk_frozen B1.out 6))
  clear hcg hzg
  replace R6 := R6.store l1 (.inl rfl) hr1 6 (.int .i64 x_5)
  replace B1 := Aside0.mk (blk_put (cs' := #[.int .i64 x_0, .int .i64 x_1, .int .i64 x_2, .int .i64 x_3, .int .i64 x_4, .slice none 0 0, .int .i64 x_5, .int .i64 0, .bool false, .bool false, .bool false, .bool false, .bool false, .bool false, .bool false, .bool false, .slice none 0 0, .int .i64 0, .int .i64 0]) B1.out 6 (.int .i64 x_5) rfl)
  cases hq6 : marker_ReadUint.f k l 6 1 with
  | none => have h := H.out; simp [codRead, rdn, hq0, hy0, hq1, hy1, hq2, hy2, hq3, hy3, hq4, hy4, hq5, hy5, hq6] at h
  | some q6 =>
  obtain ⟨x_6, y_6⟩ := q6
  by_cases hy6 : y_6 = 0
  rotate_left
  · have h := H.out
    simp [codRead, rdn, badCod, hq0, hy0, hq1, hy1, hq2, hy2, hq3, hy3, hq4, hy4, hq5, hy5, hq6, hy6] at h
    have h' := Aside0.mk h
    clear h
    go_wp2_with (first | (go_at_call 49; (with_reducible refine (reader_uint.calls k ra A c l 6 1 x_6 y_6 _ R6.br (Kd.C_below hC R6.below) hc hq6).mono ?_); rintro en w' (⟨hne, _, _⟩ | ⟨_, rfl, hd⟩); exact absurd hne hy6))
    have h := h'.out
    subst h
    exact ⟨rfl, (R6.drawn hd).only, .inr ⟨_, rfl, rfl, hy6⟩⟩
  go_wp2_with (first | (go_at_call 49; (with_reducible refine (reader_uint.calls k ra A c l 6 1 x_6 y_6 _ R6.br (Kd.C_below hC R6.below) hc hq6).mono ?_); rintro en w8 (⟨_, rfl, hd⟩ | ⟨hne, _, _⟩); rotate_left; (exact absurd hy6 hne); have R7 := R6.read (p' := 7) l0 (.inr rfl) _ hd (by unfold wrap64; omega); have n1 := Aside0.mk (RS.far B1.out hr1 hd); clear B1 hd; have B1 := n1; clear n1; have hcg : w8.cell? ⟨g, 7, none⟩ = some (.int .i64 0) := (blk_cell B1.out 7).trans rfl; have hzg := blk_frozen B1.out 7))
  clear hcg hzg
  replace R7 := R7.store l1 (.inl rfl) hr1 7 (.int .i64 x_6)
  replace B1 := Aside0.mk (blk_put (cs' := #[.int .i64 x_0, .int .i64 x_1, .int .i64 x_2, .int .i64 x_3, .int .i64 x_4, .slice none 0 0, .int .i64 x_5, .int .i64 x_6, .bool false, .bool false, .bool false, .bool false, .bool false, .bool false, .bool false, .bool false, .slice none 0 0, .int .i64 0, .int .i64 0]) B1.out 7 (.int .i64 x_6) rfl)
  cases hq7 : marker_ReadUint.f k l 7 1 with
  | none => have h := H.out; simp [codRead, rdn, hq0, hy0, hq1, hy1, hq2, hy2, hq3, hy3, hq4, hy4, hq5, hy5, hq6, hy6, hq7] at h
  | some q7 =>
  obtain ⟨x_7, y_7⟩ := q7
  by_cases hy7 : y_7 = 0
  rotate_left
  · have h := H.out
    simp [codRead, rdn, badCod, hq0, hy0, hq1, hy1, hq2, hy2, hq3, hy3, hq4, hy4, hq5, hy5, hq6, hy6, hq7, hy7] at h
    have h' := Aside0.mk h
    clear h
    go_wp2_with (first | (go_at_call 49; (with_reducible refine (reader_uint.calls k ra A c l 7 1 x_7 y_7 _ R7.br (Kd.C_below hC R7.below) hc hq7).mono ?_); rintro en w' (⟨hne, _, _⟩ | ⟨_, rfl, hd⟩); exact absurd hne hy7))
    have h := h'.out
    subst h
    exact ⟨rfl, (R7.drawn hd).only, .inr ⟨_, rfl, rfl, hy7⟩⟩
  go_wp2_with (first | (go_at_call 49; (with_reducible refine (reader_uint.calls k ra A c l 7 1 x_7 y_7 _ R7.br (Kd.C_below hC R7.below) hc hq7).mono ?_); rintro en w9 (⟨_, rfl, hd⟩ | ⟨hne, _, _⟩); rotate_left; (exact absurd hy7 hne); have R8 := R7.read (p' := 8) l0 (.inr rfl) _ hd (by unfold wrap64; omega); have n1 := Aside0.mk (RS.far B1.out hr1 hd); clear B1 hd; have B1 := n1; clear n1))
  have hgl : g < w9.heap.size := blk_lt B1.out
  have hrl : ra < w9.heap.size := blk_lt R8.br
  have R8a := R8.alloc (Obj.cells #[.int .i64 x_7] 3)
  have BF := Aside0.mk (blk_new w9 (Obj.cells #[.int .i64 x_7] 3))
  have B2 := Aside0.mk (blk_alloc B1.out (Obj.cells #[.int .i64 x_7] 3))
  have hw9 : w1.heap.size ≤ w9.heap.size := R8.only.size
  clear B1 R8
  generalize w9.alloc (Obj.cells #[.int .i64 x_7] 3) = W10 at *
  generalize w9.heap.size = gf at *
  have hfg : gf ≠ g := by omega
  have hfr : gf ≠ ra := by omega
  have f8 : W10.cell? ⟨g, 8, none⟩ = some (.bool false) := (blk_cell B2.out 8).trans rfl
  have f9 : W10.cell? ⟨g, 9, none⟩ = some (.bool false) := (blk_cell B2.out 9).trans rfl
  have f10 : W10.cell? ⟨g, 10, none⟩ = some (.bool false) := (blk_cell B2.out 10).trans rfl
  have f11 : W10.cell? ⟨g, 11, none⟩ = some (.bool false) := (blk_cell B2.out 11).trans rfl
  have f12 : W10.cell? ⟨g, 12, none⟩ = some (.bool false) := (blk_cell B2.out 12).trans rfl
  have z8 := blk_frozen B2.out 8
  have z9 := blk_frozen B2.out 9
  have z10 := blk_frozen B2.out 10
  have z11 := blk_frozen B2.out 11
  have z12 := blk_frozen B2.out 12
  go_wp2_with (first | (go_at_call 59; (with_reducible refine (on_closure gf x_7 _ (by decide) (by decide) _ BF.out).mono ?_); rintro _ w' ⟨rfl, hq⟩; have hq' := hq.symm; clear hq; subst hq') | (go_at_call 59; fail))
  have R11 := (((((R8a.store l1 (.inl rfl) hr1 8 (.bool (flag x_7 0))).store l1 (.inl rfl) hr1 9 (.bool (flag x_7 1))).store l1 (.inl rfl) hr1 10 (.bool (flag x_7 2))).store l1 (.inl rfl) hr1 11 (.bool (flag x_7 3))).store l1 (.inl rfl) hr1 12 (.bool (flag x_7 4)))
  have B3 := Aside0.mk (blk_put (cs' := #[.int .i64 x_0, .int .i64 x_1, .int .i64 x_2, .int .i64 x_3, .int .i64 x_4, .slice none 0 0, .int .i64 x_5, .int .i64 x_6, .bool (flag x_7 0), .bool (flag x_7 1), .bool (flag x_7 2), .bool (flag x_7 3), .bool (flag x_7 4), .bool false, .bool false, .bool false, .slice none 0 0, .int .i64 0, .int .i64 0]) (blk_put (cs' := #[.int .i64 x_0, .int .i64 x_1, .int .i64 x_2, .int .i64 x_3, .int .i64 x_4, .slice none 0 0, .int .i64 x_5, .int .i64 x_6, .bool (flag x_7 0), .bool (flag x_7 1), .bool (flag x_7 2), .bool (flag x_7 3), .bool false, .bool false, .bool false, .bool false, .slice none 0 0, .int .i64 0, .int .i64 0]) (blk_put (cs' := #[.int .i64 x_0, .int .i64 x_1, .int .i64 x_2, .int .i64 x_3, .int .i64 x_4, .slice none 0 0, .int .i64 x_5, .int .i64 x_6, .bool (flag x_7 0), .bool (flag x_7 1), .bool (flag x_7 2), .bool false, .bool false, .bool false, .bool false, .bool false, .slice none 0 0, .int .i64 0, .int .i64 0]) (blk_put (cs' := #[.int .i64 x_0, .int .i64 x_1, .int .i64 x_2, .int .i64 x_3, .int .i64 x_4, .slice none 0 0, .int .i64 x_5, .int .i64 x_6, .bool (flag x_7 0), .bool (flag x_7 1), .bool false, .bool false, .bool false, .bool false, .bool false, .bool false, .slice none 0 0, .int .i64 0, .int .i64 0]) (blk_put (cs' := #[.int .i64 x_0, .int .i64 x_1, .int .i64 x_2, .int .i64 x_3, .int .i64 x_4, .slice none 0 0, .int .i64 x_5, .int .i64 x_6, .bool (flag x_7 0), .bool false, .bool false, .bool false, .bool false, .bool false, .bool false, .bool false, .slice none 0 0, .int .i64 0, .int .i64 0]) B2.out 8 (.bool (flag x_7 0)) rfl) 9 (.bool (flag x_7 1)) rfl) 10 (.bool (flag x_7 2)) rfl) 11 (.bool (flag x_7 3)) rfl) 12 (.bool (flag x_7 4)) rfl)
  have BF1 := Aside0.mk (blk_far (blk_far (blk_far (blk_far (blk_far BF.out (p := ⟨g, 8, none⟩) hfg (.bool (flag x_7 0))) (p := ⟨g, 9, none⟩) hfg (.bool (flag x_7 1))) (p := ⟨g, 10, none⟩) hfg (.bool (flag x_7 2))) (p := ⟨g, 11, none⟩) hfg (.bool (flag x_7 3))) (p := ⟨g, 12, none⟩) hfg (.bool (flag x_7 4)))
  clear f8 z8 f9 z9 f10 z10 f11 z11 f12 z12 R8a B2 BF
  generalize (((((W10.setCell ⟨g, 8, none⟩ (.bool (flag x_7 0))).setCell ⟨g, 9, none⟩ (.bool (flag x_7 1))).setCell ⟨g, 10, none⟩ (.bool (flag x_7 2))).setCell ⟨g, 11, none⟩ (.bool (flag x_7 3))).setCell ⟨g, 12, none⟩ (.bool (flag x_7 4))) = W11 at *
  have BF := BF1
  clear BF1
  have f13 : W11.cell? ⟨g, 13, none⟩ = some (.bool false) := (blk_cell B3.out 13).trans rfl
  have f14 : W11.cell? ⟨g, 14, none⟩ = some (.bool false) := (blk_cell B3.out 14).trans rfl
  have f15 : W11.cell? ⟨g, 15, none⟩ = some (.bool false) := (blk_cell B3.out 15).trans rfl
  have z13 := blk_frozen B3.out 13
  have z14 := blk_frozen B3.out 14
  have z15 := blk_frozen B3.out 15
  go_wp2_with (first | (go_at_call 59; (with_reducible refine (on_closure gf x_7 _ (by decide) (by decide) _ BF.out).mono ?_); rintro _ w' ⟨rfl, hq⟩; have hq' := hq.symm; clear hq; subst hq'))
  have R12 := (((R11.store l1 (.inl rfl) hr1 13 (.bool (flag x_7 5))).store l1 (.inl rfl) hr1 14 (.bool (flag x_7 6))).store l1 (.inl rfl) hr1 15 (.bool (flag x_7 7)))
  have B4 := Aside0.mk (blk_put (cs' := #[.int .i64 x_0, .int .i64 x_1, .int .i64 x_2, .int .i64 x_3, .int .i64 x_4, .slice none 0 0, .int .i64 x_5, .int .i64 x_6, .bool (flag x_7 0), .bool (flag x_7 1), .bool (flag x_7 2), .bool (flag x_7 3), .bool (flag x_7 4), .bool (flag x_7 5), .bool (flag x_7 6), .bool (flag x_7 7), .slice none 0 0, .int .i64 0, .int .i64 0]) (blk_put (cs' := #[.int .i64 x_0, .int .i64 x_1, .int .i64 x_2, .int .i64 x_3, .int .i64 x_4, .slice none 0 0, .int .i64 x_5, .int .i64 x_6, .bool (flag x_7 0), .bool (flag x_7 1), .bool (flag x_7 2), .bool (flag x_7 3), .bool (flag x_7 4), .bool (flag x_7 5), .bool (flag x_7 6), .bool false, .slice none 0 0, .int .i64 0, .int .i64 0]) (blk_put (cs' := #[.int .i64 x_0, .int .i64 x_1, .int .i64 x_2, .int .i64 x_3, .int .i64 x_4, .slice none 0 0, .int .i64 x_5, .int .i64 x_6, .bool (flag x_7 0), .bool (flag x_7 1), .bool (flag x_7 2), .bool (flag x_7 3), .bool (flag x_7 4), .bool (flag x_7 5), .bool false, .bool false, .slice none 0 0, .int .i64 0, .int .i64 0]) B3.out 13 (.bool (flag x_7 5)) rfl) 14 (.bool (flag x_7 6)) rfl) 15 (.bool (flag x_7 7)) rfl)
  clear f13 z13 f14 z14 f15 z15 R11 B3 BF
  generalize (((W11.setCell ⟨g, 13, none⟩ (.bool (flag x_7 5))).setCell ⟨g, 14, none⟩ (.bool (flag x_7 6))).setCell ⟨g, 15, none⟩ (.bool (flag x_7 7))) = W12 at *
  have B1 := B4
  clear B4
  cases hq8 : marker_ReadUint.f k l 8 1 with
  | none => have h := H.out; simp [codRead, rdn, hq0, hy0, hq1, hy1, hq2, hy2, hq3, hy3, hq4, hy4, hq5, hy5, hq6, hy6, hq7, hy7, hq8] at h
  | some q8 =>
  obtain ⟨x_8, y_8⟩ := q8
  by_cases hy8 : y_8 = 0
  rotate_left
  · have h := H.out
    simp [codRead, rdn, badCod, hq0, hy0, hq1, hy1, hq2, hy2, hq3, hy3, hq4, hy4, hq5, hy5, hq6, hy6, hq7, hy7, hq8, hy8] at h
    have h' := Aside0.mk h
    clear h
    go_wp2_with (first | (go_at_call 49; (with_reducible refine (reader_uint.calls k ra A c l 8 1 x_8 y_8 _ R12.br (Kd.C_below hC R12.below) hc hq8).mono ?_); rintro en w' (⟨hne, _, _⟩ | ⟨_, rfl, hd⟩); exact absurd hne hy8))
    have h := h'.out
    subst h
    exact ⟨rfl, (R12.drawn hd).only, .inr ⟨_, rfl, rfl, hy8⟩⟩
  go_wp2_with (first | (go_at_call 49; (with_reducible refine (reader_uint.calls k ra A c l 8 1 x_8 y_8 _ R12.br (Kd.C_below hC R12.below) hc hq8).mono ?_); rintro en w11 (⟨_, rfl, hd⟩ | ⟨hne, _, _⟩); rotate_left; (exact absurd hy8 hne); have R9 := R12.read (p' := 9) l0 (.inr rfl) _ hd (by unfold wrap64; omega); have n1 := Aside0.mk (RS.far B1.out hr1 hd); clear B1 hd; have B1 := n1; clear n1; have hcg : w11.cell? ⟨g, 18, none⟩ = some (.int .i64 0) := (blk_cell B1.out 18).trans rfl; have hzg := blk_frozen B1.out 18))
  clear hcg hzg
  replace R9 := R9.store l1 (.inl rfl) hr1 18 (.int .i64 x_8)
  replace B1 := Aside0.mk (blk_put (cs' := #[.int .i64 x_0, .int .i64 x_1, .int .i64 x_2, .int .i64 x_3, .int .i64 x_4, .slice none 0 0, .int .i64 x_5, .int .i64 x_6, .bool (flag x_7 0), .bool (flag x_7 1), .bool (flag x_7 2), .bool (flag x_7 3), .bool (flag x_7 4), .bool (flag x_7 5), .bool (flag x_7 6), .bool (flag x_7 7), .slice none 0 0, .int .i64 0, .int .i64 x_8]) B1.out 18 (.int .i64 x_8) rfl)
  cases hq9 : marker_ReadUint.f k l 9 1 with
  | none => have h := H.out; simp [codRead, rdn, hq0, hy0, hq1, hy1, hq2, hy2, hq3, hy3, hq4, hy4, hq5, hy5, hq6, hy6, hq7, hy7, hq8, hy8, hq9] at h
  | some q9 =>
  obtain ⟨x_9, y_9⟩ := q9
  by_cases hy9 : y_9 = 0
  rotate_left
  · have h := H.out
    simp [codRead, rdn, badCod, hq0, hy0, hq1, hy1, hq2, hy2, hq3, hy3, hq4, hy4, hq5, hy5, hq6, hy6, hq7, hy7, hq8, hy8, hq9, hy9] at h
    have h' := Aside0.mk h
    clear h
    go_wp2_with (first | (go_at_call 49; (with_reducible refine (reader_uint.calls k ra A c l 9 1 x_9 y_9 _ R9.br (Kd.C_below hC R9.below) hc hq9).mono ?_); rintro en w' (⟨hne, _, _⟩ | ⟨_, rfl, hd⟩); exact absurd hne hy9))
    have h := h'.out
    subst h
    exact ⟨rfl, (R9.drawn hd).only, .inr ⟨_, rfl, rfl, hy9⟩⟩
  go_wp2_with (first | (go_at_call 49; (with_reducible refine (reader_uint.calls k ra A c l 9 1 x_9 y_9 _ R9.br (Kd.C_below hC R9.below) hc hq9).mono ?_); rintro en w12 (⟨_, rfl, hd⟩ | ⟨hne, _, _⟩); rotate_left; (exact absurd hy9 hne); have R10 := R9.read (p' := 10) l0 (.inr rfl) _ hd (by unfold wrap64; omega); have n1 := Aside0.mk (RS.far B1.out hr1 hd); clear B1 hd; have B1 := n1; clear n1))
  cases hsl : codLoop k l 10 x_9 [] with
  | none => have h := H.out; simp [codRead, rdn, hq0, hy0, hq1, hy1, hq2, hy2, hq3, hy3, hq4, hy4, hq5, hy5, hq6, hy6, hq7, hy7, hq8, hy8, hq9, hy9, hsl] at h
  | some t =>
  have HT := Aside0.mk (show (if t.1 = 0 then ⟨0, x_0, x_1, x_2, x_3, x_4, x_5, x_6, x_7, x_8, t.2.1, t.2.2⟩ else badCod t.1) = z by have h := H.out; simpa [codRead, rdn, hq0, hy0, hq1, hy1, hq2, hy2, hq3, hy3, hq4, hy4, hq5, hy5, hq6, hy6, hq7, hy7, hq8, hy8, hq9, hy9, hsl] using h)
  have HSL := Aside0.mk hsl
  clear hsl H hq0 hy0 hq1 hy1 hq2 hy2 hq3 hy3 hq4 hy4 hq5 hy5 hq6 hy6 hq7 hy7 hq8 hy8 hq9 hy9
  have hsz8 : w1.heap.size ≤ w12.heap.size := R10.only.size
  have HR0 := Aside0.mk (Kd.R_nil k89 89 w12 wb.heap.size (fun k => w1.heap.size ≤ k))
  go_loopg [5] k (fun kq v5 w' => ∃ (n p : Int) (ys : List S89) (v : Value), v5 = .int .i64 n ∧ Aside0 (codLoop kq l p n ys = some t) ∧ RS (fun k => k = g ∨ k = ra) wb w1 ra A l.length c p w' ∧ Aside0 (w'.heap[g]? = some (.cells #[.int .i64 x_0, .int .i64 x_1, .int .i64 x_2, .int .i64 x_3, .int .i64 x_4, v, .int .i64 x_5, .int .i64 x_6, .bool (flag x_7 0), .bool (flag x_7 1), .bool (flag x_7 2), .bool (flag x_7 3), .bool (flag x_7 4), .bool (flag x_7 5), .bool (flag x_7 6), .bool (flag x_7 7), .slice none 0 0, .int .i64 0, .int .i64 x_8] 55 (0, 0))) ∧ Aside0 (Kd.R k89 89 w' wb.heap.size (fun k => w1.heap.size ≤ k) v ys))
  case atStart => exact ⟨x_9, 10, [], _, rfl, HSL, R10, B1, HR0⟩
  case round =>
    clear HSL R10 B1 HR0 hsz8
    obtain ⟨n, p, ys, v, rfl, HS, R, B1, HR⟩ := hrel
    cases gk with
    | zero => exact absurd HS.out (by simp [codLoop])
    | succ kk =>
    have hs := HS.out
    clear HS
    rw [codLoop.eq_2] at hs
    by_cases hn : n > 0
    rotate_left
    · rw [if_neg hn] at hs
      have hn0 : decide (0 < n) = false := decide_eq_false hn
      obtain rfl : (0, ys, p) = t := Option.some.inj hs
      have ht := HT.out
      simp only [if_true] at ht
      subst ht
      clear hs HT
      go_wp2
      go_end0
      first | exact ⟨R.only, .inl ⟨_, rfl, R.br, rfl, rfl, v, B1.out, HR.out⟩⟩ | exact ⟨R.only, rfl, _, R.br, rfl, v, B1.out, HR.out⟩
    rw [if_pos hn] at hs
    have hn1 : decide (0 < n) = true := decide_eq_true hn
    by_cases hlim : ys.length < 8796093022207
    rotate_left
    · rw [if_neg hlim] at hs; exact absurd hs (by simp)
    rw [if_pos hlim] at hs
    have HLIM := Aside0.mk hlim
    clear hlim
    (try simp only [rdn] at hs)
    cases hq10 : marker_ReadUint.f kk l p 1 with
    | none => rw [hq10] at hs; exact absurd hs (by simp)
    | some q10 =>
    obtain ⟨x_10, y_10⟩ := q10
    rw [hq10] at hs
    simp only [Option.bind_some] at hs
    by_cases hy10 : y_10 = 0
    rotate_left
    · rw [if_neg hy10] at hs
      obtain rfl : (y_10, [], 0) = t := Option.some.inj hs
      have ht := HT.out
      rw [if_neg hy10] at ht
      subst ht
      clear hs HT
      go_wp2_with (go_at_call 49; (with_reducible refine (reader_uint.calls kk ra A c l p 1 x_10 y_10 _ R.br (Kd.C_below hC R.below) hc hq10).mono ?_); rintro en w' (⟨hne, _, _⟩ | ⟨_, rfl, hd⟩); exact absurd hne hy10)
      exact ⟨rfl, (R.drawn hd).only, .inr ⟨_, rfl, rfl, hy10⟩⟩
    rw [if_pos hy10] at hs
    have hs' := Aside0.mk hs
    clear hs
    obtain ⟨A0, c0, rfl⟩ := Kd.R_slice HR.out
    go_wp2_with (first | (go_at_call 49; (with_reducible refine (reader_uint.calls kk ra A c l p 1 x_10 y_10 _ R.br (Kd.C_below hC R.below) hc hq10).mono ?_); rintro en w13 (⟨_, rfl, hd⟩ | ⟨hne, _, _⟩); rotate_left; (exact absurd hy10 hne); have R1 := R.read (p' := wrap64 (p + 1)) l0 (.inr rfl) _ hd rfl; have n1 := Aside0.mk (RS.far B1.out hr1 hd); have n2 := Aside0.mk (RS.readR HR.out (fun k hk => by omega) hd); clear B1 HR hd R; have B1 := n1; have HR := n2; clear n1 n2; have h5 : w13.cell? ⟨g, 5, none⟩ = some (.slice A0 ys.length c0) := (blk_cell B1.out 5).trans rfl; have z5 := blk_frozen B1.out 5) | ((with_reducible refine gate_builtin (b := .append) (xs := #[.tmp 64, .tmp 70]) rfl ?_); at_builtin; refine Kd.R_append k89 (w0 := wb) wb.heap.size rfl (.tmp 64) (.tmp 70) 50 89 (.agg #[.int .i64 0, .int .i64 0]) 16 rfl Try.underlying50 info89 rfl (by decide) (by omega) (.slice A0 ys.length c0) ys (⟨Go.bits .and .i64 x_10 15, x_10 / 16⟩ : S89) [.int .i64 (Go.bits .and .i64 x_10 15), .int .i64 (x_10 / 16)] (fun k => w1.heap.size ≤ k) (fun _ => False) rfl rfl ?aP (fun _ hk => hk.elim) ?aF ?aO ?aB ?aS ?aL ?_; (case aP => exact k89_mkM _ _ _ (⟨Go.bits .and .i64 x_10 15, x_10 / 16⟩ : S89)); (case aF => exact fun k hk => Nat.le_trans R1.only.size hk); (case aO => exact HR.out); (case aB => exact R1.below); (case aS => exact R1.below.size); (case aL => have := HLIM.out; omega); intro v2 w14 ho hb hg hat; obtain ⟨A2, c2, rfl⟩ := Kd.R_slice ho; have R2 := R1.grown hb hg HR.out.1 hlr; have B2 := Aside0.mk (blk_grown B1.out hg (fun he => by have := HR.out.1 g he.symm; omega)); have HR2 := Aside0.mk ho; clear ho hb hg hat h5 z5; have h5 : w14.cell? ⟨g, 5, none⟩ = some (.slice A0 ys.length c0) := (blk_cell B2.out 5).trans rfl; have z5 := blk_frozen B2.out 5))
    have hs := hs'.out
    clear hs' h5 z5
    go_roundg kk
    case measure => omega
    case rel => exact ⟨_, _, ys ++ [(⟨Go.bits .and .i64 x_10 15, x_10 / 16⟩ : S89)], _, rfl, ⟨hs⟩, R2.store l1 (.inl rfl) hr1 5 _, ⟨blk_put B2.out 5 _ rfl⟩, ⟨by have h6 := Kd.R_far (p := ⟨g, 5, none⟩) HR2.out (fun k hk => by show k ≠ g; omega) (.slice A2 (ys.length + 1) c2); simpa using h6⟩⟩

def headseg_ParseCoding.f (k : Nat) (a0_0 : Int) (l0_1 : List Int) : Option (Int × Int × Int × Int × Int × (List (S89)) × Int × Int × Bool × Bool × Bool × Bool × Bool × Bool × Bool × Bool × List Int × Int × Int × Int) :=
  (codRead k l0_1).bind fun z => some (if a0_0 = 65442 then (if z.e = 0 then (if z.p < (l0_1.length : Int) then (0, 0, 0, 0, 0, [], 0, 0, false, false, false, false, false, false, false, false, [], 0, 0, 9) else (z.x0, z.x1, z.x2, z.x3, z.x4, z.t, z.x5, z.x6, flag z.f 0, flag z.f 1, flag z.f 2, flag z.f 3, flag z.f 4, flag z.f 5, flag z.f 6, flag z.f 7, [], 0, z.sh, 0)) else (0, 0, 0, 0, 0, [], 0, 0, false, false, false, false, false, false, false, false, [], 0, 0, z.e)) else (0, 0, 0, 0, 0, [], 0, 0, false, false, false, false, false, false, false, false, [], 0, 0, 11))
theorem headseg_ParseCoding.mono : ∀ a0 a1 k, LeO (headseg_ParseCoding.f k a0 a1) (headseg_ParseCoding.f (k + 1) a0 a1) := by
  intro a0 a1 k
  exact LeO.bind (codRead.mono k a1) (fun _ => LeO.refl _)
set_option maxHeartbeats 8000000 in
set_option maxRecDepth 100000 in
theorem headseg_ParseCoding.calls (k : Nat) (a0_0 : Int) (A0_1 : Option Addr) (c0_1 : Nat) (l0_1 : List Int) (r1 : Int) (r2 : Int) (r3 : Int) (r4 : Int) (r5 : Int) (r6 : List (S89)) (r7 : Int) (r8 : Int) (r9 : Bool) (r10 : Bool) (r11 : Bool) (r12 : Bool) (r13 : Bool) (r14 : Bool) (r15 : Bool) (r16 : Bool) (r17 : List Int) (r18 : Int) (r19 : Int) (r20 : Int) (w : World) (hr0_1 : Kd.C (Kd.int .u8) w A0_1 l0_1.length l0_1) (hc0_1 : l0_1.length ≤ c0_1) (h : headseg_ParseCoding.f k a0_0 l0_1 = some (r1, r2, r3, r4, r5, r6, r7, r8, r9, r10, r11, r12, r13, r14, r15, r16, r17, r18, r19, r20)) :
    Calls Try.prog 35 #[.agg #[.int .i64 a0_0, .slice A0_1 l0_1.length c0_1]] w fun e w' => ∃ v5_ v16_ : Value, e = .returned (.tuple #[.agg #[.int .i64 r1, .int .i64 r2, .int .i64 r3, .int .i64 r4, .int .i64 r5, v5_, .int .i64 r7, .int .i64 r8, .bool r9, .bool r10, .bool r11, .bool r12, .bool r13, .bool r14, .bool r15, .bool r16, v16_, .int .i64 r18, .int .i64 r19], .int .i64 r20]) ∧ Kd.R k89 89 w' w.heap.size (fun _ => True) v5_ r6 ∧ Kd.R (Kd.int .i64) 3 w' w.heap.size (fun _ => True) v16_ r17 ∧ Below w.heap.size w w' := by
  cases ht : codRead k l0_1 with
  | none => simp [headseg_ParseCoding.f, ht] at h
  | some z =>
  simp only [headseg_ParseCoding.f, ht, Option.bind_some, Option.some.injEq] at h
  have H := Aside0.mk h
  have HT := Aside0.mk ht
  have HR := Aside0.mk hr0_1
  have HC := Aside0.mk hc0_1
  clear h ht hr0_1 hc0_1
  have hmf : ∀ (fn : Fn) (first cap : Array Value) (w : World), (Instr.makeFunc fn first cap).run Try.prog w = .ok (.func fn first cap) w := fun _ _ _ _ => rfl
  have K00 := Aside0.mk (Bks.nil w)
  go_enter Try.func35, Try.ntmps35
  go_wp2_with (first
    | ((with_reducible refine gate_dst (N := 1) rfl ?_); refine box_event ?hg (N := 1) ?hd (cs := #[.int .i64 a0_0, .slice A0_1 l0_1.length c0_1]) (t := 26) ?hr ?_; (case hd => rfl); (case hg => rfl); (case hr => first | (go_simp; done) | (go_simp; rfl)); intro g1 hg W1 hbox hb; have K0 := Aside0.mk (K00.out.box (Nat.le_refl _) hg hbox hb); clear hg hbox hb K00)
    | ((with_reducible refine gate_dst (N := 2) rfl ?_); refine box_event ?hg (N := 2) ?hd (cs := #[.int .i64 0, .int .i64 0, .int .i64 0, .int .i64 0, .int .i64 0, .slice none 0 0, .int .i64 0, .int .i64 0, .bool false, .bool false, .bool false, .bool false, .bool false, .bool false, .bool false, .bool false, .slice none 0 0, .int .i64 0, .int .i64 0]) (t := 55) ?hr ?_; (case hd => rfl); (case hg => rfl); (case hr => first | (go_simp; done) | (go_simp; rfl)); intro g2 hg W2 hbox hb; have K1 := Aside0.mk (K0.out.box (below_size K0.out.below) hg hbox hb); clear hg hbox hb K0)
    | ((with_reducible refine gate_dst (N := 4) rfl ?_); refine box_event ?hg (N := 4) ?hd (cs := #[.int .i64 0, .int .i64 0, .int .i64 0, .int .i64 0, .int .i64 0, .slice none 0 0, .int .i64 0, .int .i64 0, .bool false, .bool false, .bool false, .bool false, .bool false, .bool false, .bool false, .bool false, .slice none 0 0, .int .i64 0, .int .i64 0]) (t := 55) ?hr ?_; (case hd => rfl); (case hg => rfl); (case hr => first | (go_simp; done) | (go_simp; rfl)); intro g4 hg W4 hbox hb; have K8 := Aside0.mk (K1.out.box (below_size K1.out.below) hg hbox hb); clear hg hbox hb K1)
    | ((with_reducible refine gate_dst (N := 6) rfl ?_); refine load_ev rfl 26 (.tmp 1) rfl rfl (K8.out.get 2 rfl) Try.underlying26 rfl ?_)
    | (go_at_call 47; fail))
  generalize W4 = W10 at *
  have hl7 : g4 < W10.heap.size := blk_lt (K8.out.get 0 rfl)
  have hg7 : w.heap.size ≤ g4 := K8.out.ge 0 _ rfl
  have hwW : w.heap.size ≤ W10.heap.size := below_size K8.out.below
  have hn47 : g2 ≠ g4 := K8.out.ne 1 0 _ _ (by decide) rfl rfl
  refine (parse.calls 58 (fun _ _ => by simp [go_sem]) #[.pointer (some ⟨g4, 0, none⟩)] (fun ra => #[.pointer (some ⟨ra, 0, none⟩), .pointer (some ⟨g4, 0, none⟩)]) (fun _ => by simp) (fun k => k = g4) a0_0 65442 A0_1 c0_1 l0_1 W10 (Kd.C_below HR.out K8.out.below) HC.out
    (fun p w2 => z.e = 0 ∧ p = z.p ∧ ∃ v, w2.heap[g4]? = some (.cells #[.int .i64 z.x0, .int .i64 z.x1, .int .i64 z.x2, .int .i64 z.x3, .int .i64 z.x4, v, .int .i64 z.x5, .int .i64 z.x6, .bool (flag z.f 0), .bool (flag z.f 1), .bool (flag z.f 2), .bool (flag z.f 3), .bool (flag z.f 4), .bool (flag z.f 5), .bool (flag z.f 6), .bool (flag z.f 7), .slice none 0 0, .int .i64 0, .int .i64 z.sh] 55 (0, 0)) ∧ Kd.R k89 89 w2 w.heap.size (fun k => W10.heap.size + 3 ≤ k) v z.t)
    (fun e' w2 => e' = z.e ∧ z.e ≠ 0) (fun k hk => by omega) ?ok ?err ?cl).mono ?_
  case ok => exact fun p u1 u2 ⟨q1, q2, v, q3, q4⟩ ho => ⟨q1, q2, v, ho.blk q3 (by omega), Kd.R_step q4 (fun k hk hlt => ho.block k hlt (by omega))⟩
  case err => exact fun p u1 u2 q ho => q
  case cl => exact fun w1 hb1 hra hbr => (cod_closure k w w1 A0_1 c0_1 l0_1 HR.out HC.out (W10.heap.size + 2) g4 (by omega) (by omega) (by omega) (by omega) (by omega) (K8.out.below.trans (hb1.mono (by omega))) hbr (by rw [hb1.block g4 (by omega)]; exact K8.out.get 0 rfl) z HT.out).mono (fun en w2 ⟨q1, q2⟩ => ⟨q1, q2.imp (fun ⟨p, p1, p2, p3, p4, v, p5, p6⟩ => ⟨p, p1, p2, p3, p4, v, p5, Kd.R_mono p6 (fun k hk => by omega)⟩) id⟩)
  rintro en w2 ⟨y, rfl, ho, hcase⟩
  have HB2 := Aside0.mk (K8.out.below.trans (ho.below (B := w.heap.size) (by omega) (fun k hk => by omega)))
  have BZ := Aside0.mk (ho.blk (K8.out.get 1 rfl) hn47)
  have hg4 : w.heap.size ≤ g2 := K8.out.ge 1 _ rfl
  have hcase' : (y ≠ 0 ∧ (r1, r2, r3, r4, r5, r6, r7, r8, r9, r10, r11, r12, r13, r14, r15, r16, r17, r18, r19, r20) = (0, 0, 0, 0, 0, [], 0, 0, false, false, false, false, false, false, false, false, [], 0, 0, y)) ∨ (y = 0 ∧ (r1, r2, r3, r4, r5, r6, r7, r8, r9, r10, r11, r12, r13, r14, r15, r16, r17, r18, r19, r20) = (z.x0, z.x1, z.x2, z.x3, z.x4, z.t, z.x5, z.x6, flag z.f 0, flag z.f 1, flag z.f 2, flag z.f 3, flag z.f 4, flag z.f 5, flag z.f 6, flag z.f 7, [], 0, z.sh, 0) ∧ ∃ v, w2.heap[g4]? = some (.cells #[.int .i64 z.x0, .int .i64 z.x1, .int .i64 z.x2, .int .i64 z.x3, .int .i64 z.x4, v, .int .i64 z.x5, .int .i64 z.x6, .bool (flag z.f 0), .bool (flag z.f 1), .bool (flag z.f 2), .bool (flag z.f 3), .bool (flag z.f 4), .bool (flag z.f 5), .bool (flag z.f 6), .bool (flag z.f 7), .slice none 0 0, .int .i64 0, .int .i64 z.sh] 55 (0, 0)) ∧ Kd.R k89 89 w2 w.heap.size (fun k => W10.heap.size + 3 ≤ k) v z.t) := by
    have h := H.out
    rcases hcase with ⟨hne, rfl, h11⟩ | ⟨heq, ⟨p, ⟨hz, rfl, v, q3, q4⟩, hy⟩ | ⟨rfl, q2⟩⟩
    · rw [if_neg hne] at h
      exact .inl ⟨by decide, h.symm⟩
    · rw [if_pos heq, if_pos hz] at h
      by_cases h8 : z.p < (l0_1.length : Int)
      · rw [if_pos h8] at h hy
        subst hy
        exact .inl ⟨by decide, h.symm⟩
      · rw [if_neg h8] at h hy
        exact .inr ⟨hy, h.symm, v, q3, q4⟩
    · rw [if_pos heq, if_neg q2] at h
      exact .inl ⟨q2, h.symm⟩
  clear hcase ho H HT HR HC K8
  rcases hcase' with ⟨hy, hr⟩ | ⟨hy, hr, v, bg, hR⟩
  · have hy0 : (y == 0) = false := by simpa using hy
    have hy' : (y != 0) = true := by simpa using hy
    simp only [Prod.mk.injEq] at hr
    obtain ⟨rfl, rfl, rfl, rfl, rfl, rfl, rfl, rfl, rfl, rfl, rfl, rfl, rfl, rfl, rfl, rfl, rfl, rfl, rfl, rfl⟩ := hr
    go_wp2_with (refine store_ev rfl rfl 55 (.tmp 2) (.tmp 11) rfl rfl rfl BZ.out rfl rfl (by first | (kernel_rfl) | (simp [Value.oneCell'])) ?_; intro W8 hs; have HBx := hs.below _ _ hg4 HB2.out; have BZx := Aside0.mk hs.blk; clear hs; have RR := Aside0.mk HBx; clear HBx)
    refine bodyPost_ret (results_ct rfl _ _ g2 55 _ (0, 0) _ rfl BZx.out Try.underlying55 rfl (by kernel_rfl)) rfl ?_
    exact ⟨_, _, rfl, Kd.R_nil k89 89 _ _ _, Kd.R_nil (Kd.int .i64) 3 _ _ _, RR.out⟩
  · subst hy
    simp only [Prod.mk.injEq] at hr
    obtain ⟨rfl, rfl, rfl, rfl, rfl, rfl, rfl, rfl, rfl, rfl, rfl, rfl, rfl, rfl, rfl, rfl, rfl, rfl, rfl, rfl⟩ := hr
    obtain ⟨Ax, cx, rfl⟩ := Kd.R_slice hR
    have BG := Aside0.mk bg
    have HRx := Aside0.mk hR
    clear bg hR
    go_wp2_with (first
      | ((with_reducible refine gate_dst (N := 13) rfl ?_); refine load_ev rfl 55 (.tmp 4) rfl rfl BG.out Try.underlying55 rfl ?_)
      | (refine store_ev rfl rfl 55 (.tmp 2) (.tmp 13) rfl rfl rfl BZ.out rfl rfl (by first | (kernel_rfl) | (simp [Value.oneCell'])) ?_; intro W8 hs; have RSx := row_stored (Kd.R_mono (ok' := fun _ => True) HRx.out (fun _ _ => trivial)) BZ.out (by decide) hs; have HBx := hs.below _ _ hg4 HB2.out; have BZx := Aside0.mk hs.blk; clear hs; have RR := Aside0.mk (And.intro RSx HBx); clear RSx HBx))
    refine bodyPost_ret (results_ct rfl _ _ g2 55 _ (0, 0) _ rfl BZx.out Try.underlying55 rfl (by kernel_rfl)) rfl ?_
    exact ⟨_, _, rfl, RR.out.1, Kd.R_nil (Kd.int .i64) 3 _ _ _, RR.out.2⟩
end Go.Proofs.Ytihfopblmjgfaaa.Q

/- slices.Clone, at three element types; params.Clone and the reference's Clone. Printed by wip/tools/genClone.py of this session. -/
namespace Go.Proofs.Ytihfopblmjgfaaa.Q
open Go.RowKit Go.Proofs.YtihfopblmjgfaaaW.PrintWords Go.Proofs.YtihfopblmjgfaaaW.PrintLast Go.Proofs.YtihfopblmjgfaaaW.PrintMore
set_option linter.unusedVariables false
set_option linter.unusedSimpArgs false

set_option maxHeartbeats 4000000 in
set_option maxRecDepth 100000 in
theorem slices_Clone66.calls (A : Option Addr) (c : Nat) (xs : List Int) (w : World) (hr : Kd.C (Kd.int .i64) w A xs.length xs) (hc : xs.length ≤ c) (hl : xs.length * 8 ≤ 140737488355328) :
    Calls Try.prog 66 #[.slice A xs.length c] w fun e w' => ∃ v, e = .returned v ∧ Kd.R (Kd.int .i64) 3 w' w.heap.size (fun _ => True) v xs ∧ Below w.heap.size w w' := by
  have HR := Aside0.mk hr
  have HL := Aside0.mk hl
  cases A with
  | none =>
    have h0 : xs.length = 0 := by
      rcases Nat.eq_zero_or_pos xs.length with h | h
      · exact h
      · obtain ⟨ad, e, _⟩ := hr.2.2 h
        cases e
    obtain rfl := List.eq_nil_of_length_eq_zero h0
    clear hr hl h0
    have heq : ∀ W : World, (binOp BinOp.eql 39 (.slice none 0 c) (.slice none 0 0)).run Try.prog W = .ok (.bool true) W := fun _ => by kernel_rfl
    go_enter Try.func66, Try.ntmps66
    go_wp2
    go_ret
    exact ⟨_, rfl, Kd.R_nil (Kd.int .i64) 3 _ _ _, Below.refl _ _⟩
  | some a =>
    clear hr hl
    have heq : ∀ W : World, (binOp BinOp.eql 39 (.slice (some a) xs.length c) (.slice none 0 0)).run Try.prog W = .ok (.bool false) W := fun _ => by kernel_rfl
    go_enter Try.func66, Try.ntmps66
    go_wp2_with (first | ((with_reducible refine gate_dst (N := 5) rfl ?_); refine Kd.R_lit (Kd.int .i64) _ 3 ?hg (N := 5) ?hd (xs := ([] : List Int)) (inner := []) (ok := fun _ => True) (okp := fun _ => True) ?hr ?hp (fun _ hk => hk) trivial (Below.refl _ _) (Nat.le_refl _) (by simp) ?_; (case hd => rfl); (case hg => rfl); (case hr => first | (go_simp; done) | (go_simp; rfl)); (case hp => exact (Reps.none _ _)); intro v1 w1 ho hb hg_ hnew_; clear hg_ hnew_; have HO := Aside0.mk ho; have HB := Aside0.mk hb; clear ho hb) | ((with_reducible refine gate_builtin (b := .append) (xs := #[.tmp 5, .tmp 6]) rfl ?_); at_builtin; refine Kd.R_append_rows (Kd.int .i64) (w0 := w) w.heap.size rfl (.tmp 5) (.tmp 6) 39 3 (.int .i64 0) 8 rfl Try.underlying39 info3 rfl (by decide) (by omega) v1 [] xs _ _ _ (fun _ => True) (fun _ => False) rfl rfl HO.out ?aR (fun _ _ h => h) (fun _ h => h.elim) (fun _ _ => trivial) HB.out ?aS ?aL ?_; (case aR => exact Kd.C_below HR.out HB.out); (case aS => exact HB.out.size); (case aL => have := HL.out; simp; omega); intro v2 w2 ho hb hg hat; simp only [List.nil_append] at ho; have HO2 := Aside0.mk ho; have HB2 := Aside0.mk hb; clear ho hb hg hat))
    go_ret
    exact ⟨_, rfl, HO2.out, HB2.out⟩

set_option maxHeartbeats 4000000 in
set_option maxRecDepth 100000 in
theorem slices_Clone64.calls (A : Option Addr) (c : Nat) (xs : List S97) (w : World) (hr : Kd.C k97 w A xs.length xs) (hc : xs.length ≤ c) (hl : xs.length * 32 ≤ 140737488355328) :
    Calls Try.prog 64 #[.slice A xs.length c] w fun e w' => ∃ v, e = .returned v ∧ Kd.R k97 97 w' w.heap.size (fun _ => True) v xs ∧ Below w.heap.size w w' := by
  have HR := Aside0.mk hr
  have HL := Aside0.mk hl
  cases A with
  | none =>
    have h0 : xs.length = 0 := by
      rcases Nat.eq_zero_or_pos xs.length with h | h
      · exact h
      · obtain ⟨ad, e, _⟩ := hr.2.2 h
        cases e
    obtain rfl := List.eq_nil_of_length_eq_zero h0
    clear hr hl h0
    have heq : ∀ W : World, (binOp BinOp.eql 65 (.slice none 0 c) (.slice none 0 0)).run Try.prog W = .ok (.bool true) W := fun _ => by kernel_rfl
    go_enter Try.func64, Try.ntmps64
    go_wp2
    go_ret
    exact ⟨_, rfl, Kd.R_nil k97 97 _ _ _, Below.refl _ _⟩
  | some a =>
    clear hr hl
    have heq : ∀ W : World, (binOp BinOp.eql 65 (.slice (some a) xs.length c) (.slice none 0 0)).run Try.prog W = .ok (.bool false) W := fun _ => by kernel_rfl
    go_enter Try.func64, Try.ntmps64
    go_wp2_with (first | ((with_reducible refine gate_dst (N := 5) rfl ?_); refine Kd.R_lit k97 _ 97 ?hg (N := 5) ?hd (xs := ([] : List S97)) (inner := []) (ok := fun _ => True) (okp := fun _ => True) ?hr ?hp (fun _ hk => hk) trivial (Below.refl _ _) (Nat.le_refl _) (by simp) ?_; (case hd => rfl); (case hg => rfl); (case hr => first | (go_simp; done) | (go_simp; rfl)); (case hp => exact (Reps.none _ _)); intro v1 w1 ho hb hg_ hnew_; clear hg_ hnew_; have HO := Aside0.mk ho; have HB := Aside0.mk hb; clear ho hb) | ((with_reducible refine gate_builtin (b := .append) (xs := #[.tmp 5, .tmp 6]) rfl ?_); at_builtin; refine Kd.R_append_rows k97 (w0 := w) w.heap.size rfl (.tmp 5) (.tmp 6) 65 97 (.agg #[(.int .i64 0), (.bool false), (.int .i64 0), (.int .i64 0)]) 32 rfl Try.underlying65 info97 rfl (by decide) (by omega) v1 [] xs _ _ _ (fun _ => True) (fun _ => False) rfl rfl HO.out ?aR (fun _ _ h => h) (fun _ h => h.elim) (fun _ _ => trivial) HB.out ?aS ?aL ?_; (case aR => exact Kd.C_below HR.out HB.out); (case aS => exact HB.out.size); (case aL => have := HL.out; simp; omega); intro v2 w2 ho hb hg hat; simp only [List.nil_append] at ho; have HO2 := Aside0.mk ho; have HB2 := Aside0.mk hb; clear ho hb hg hat))
    go_ret
    exact ⟨_, rfl, HO2.out, HB2.out⟩

set_option maxHeartbeats 4000000 in
set_option maxRecDepth 100000 in
theorem slices_Clone65.calls (A : Option Addr) (c : Nat) (xs : List S89) (w : World) (hr : Kd.C k89 w A xs.length xs) (hc : xs.length ≤ c) (hl : xs.length * 16 ≤ 140737488355328) :
    Calls Try.prog 65 #[.slice A xs.length c] w fun e w' => ∃ v, e = .returned v ∧ Kd.R k89 89 w' w.heap.size (fun _ => True) v xs ∧ Below w.heap.size w w' := by
  have HR := Aside0.mk hr
  have HL := Aside0.mk hl
  cases A with
  | none =>
    have h0 : xs.length = 0 := by
      rcases Nat.eq_zero_or_pos xs.length with h | h
      · exact h
      · obtain ⟨ad, e, _⟩ := hr.2.2 h
        cases e
    obtain rfl := List.eq_nil_of_length_eq_zero h0
    clear hr hl h0
    have heq : ∀ W : World, (binOp BinOp.eql 50 (.slice none 0 c) (.slice none 0 0)).run Try.prog W = .ok (.bool true) W := fun _ => by kernel_rfl
    go_enter Try.func65, Try.ntmps65
    go_wp2
    go_ret
    exact ⟨_, rfl, Kd.R_nil k89 89 _ _ _, Below.refl _ _⟩
  | some a =>
    clear hr hl
    have heq : ∀ W : World, (binOp BinOp.eql 50 (.slice (some a) xs.length c) (.slice none 0 0)).run Try.prog W = .ok (.bool false) W := fun _ => by kernel_rfl
    go_enter Try.func65, Try.ntmps65
    go_wp2_with (first | ((with_reducible refine gate_dst (N := 5) rfl ?_); refine Kd.R_lit k89 _ 89 ?hg (N := 5) ?hd (xs := ([] : List S89)) (inner := []) (ok := fun _ => True) (okp := fun _ => True) ?hr ?hp (fun _ hk => hk) trivial (Below.refl _ _) (Nat.le_refl _) (by simp) ?_; (case hd => rfl); (case hg => rfl); (case hr => first | (go_simp; done) | (go_simp; rfl)); (case hp => exact (Reps.none _ _)); intro v1 w1 ho hb hg_ hnew_; clear hg_ hnew_; have HO := Aside0.mk ho; have HB := Aside0.mk hb; clear ho hb) | ((with_reducible refine gate_builtin (b := .append) (xs := #[.tmp 5, .tmp 6]) rfl ?_); at_builtin; refine Kd.R_append_rows k89 (w0 := w) w.heap.size rfl (.tmp 5) (.tmp 6) 50 89 (.agg #[(.int .i64 0), (.int .i64 0)]) 16 rfl Try.underlying50 info89 rfl (by decide) (by omega) v1 [] xs _ _ _ (fun _ => True) (fun _ => False) rfl rfl HO.out ?aR (fun _ _ h => h) (fun _ h => h.elim) (fun _ _ => trivial) HB.out ?aS ?aL ?_; (case aR => exact Kd.C_below HR.out HB.out); (case aS => exact HB.out.size); (case aL => have := HL.out; simp; omega); intro v2 w2 ho hb hg hat; simp only [List.nil_append] at ho; have HO2 := Aside0.mk ho; have HB2 := Aside0.mk hb; clear ho hb hg hat))
    go_ret
    exact ⟨_, rfl, HO2.out, HB2.out⟩
end Go.Proofs.Ytihfopblmjgfaaa.Q

/- params.Clone of a zero header. Printed by wip/tools/genClone2.py of this session. -/
namespace Go.Proofs.Ytihfopblmjgfaaa.Q
open Go.RowKit Go.Proofs.YtihfopblmjgfaaaW.PrintWords Go.Proofs.YtihfopblmjgfaaaW.PrintLast Go.Proofs.YtihfopblmjgfaaaW.PrintMore
set_option linter.unusedVariables false
set_option linter.unusedSimpArgs false

set_option maxHeartbeats 8000000 in
set_option maxRecDepth 100000 in
theorem params_Clone.calls (a1_0 : Int) (a1_1 : Int) (a1_2 : Int) (a1_3 : Int) (a1_4 : Int) (A1_5 : Option Addr) (c1_5 : Nat) (l1_5 : List S89) (a1_6 : Int) (a1_7 : Int) (a1_8 : Bool) (a1_9 : Bool) (a1_10 : Bool) (a1_11 : Bool) (a1_12 : Bool) (a1_13 : Bool) (a1_14 : Bool) (a1_15 : Bool) (A1_16 : Option Addr) (c1_16 : Nat) (l1_16 : List Int) (a1_17 : Int) (a1_18 : Int) (w : World) (hr1_5 : Kd.C k89 w A1_5 l1_5.length l1_5) (hc1_5 : l1_5.length ≤ c1_5) (hr1_16 : Kd.C (Kd.int .i64) w A1_16 l1_16.length l1_16) (hc1_16 : l1_16.length ≤ c1_16) (hl5 : l1_5.length * 16 ≤ 140737488355328) (hl16 : l1_16.length * 8 ≤ 140737488355328) :
    Calls Try.prog 53 #[.agg #[.int .i64 0, .int .i64 0, .int .i64 0, .int .i64 0, .int .i64 0, .int .i64 0, .slice none 0 0], .agg #[.int .i64 a1_0, .int .i64 a1_1, .int .i64 a1_2, .int .i64 a1_3, .int .i64 a1_4, .slice A1_5 l1_5.length c1_5, .int .i64 a1_6, .int .i64 a1_7, .bool a1_8, .bool a1_9, .bool a1_10, .bool a1_11, .bool a1_12, .bool a1_13, .bool a1_14, .bool a1_15, .slice A1_16 l1_16.length c1_16, .int .i64 a1_17, .int .i64 a1_18]] w fun e w' => ∃ v6_ v12_ v23_ : Value, e = .returned (.tuple #[.agg #[.int .i64 0, .int .i64 0, .int .i64 0, .int .i64 0, .int .i64 0, .int .i64 0, v6_], .agg #[.int .i64 a1_0, .int .i64 a1_1, .int .i64 a1_2, .int .i64 a1_3, .int .i64 a1_4, v12_, .int .i64 a1_6, .int .i64 a1_7, .bool a1_8, .bool a1_9, .bool a1_10, .bool a1_11, .bool a1_12, .bool a1_13, .bool a1_14, .bool a1_15, v23_, .int .i64 a1_17, .int .i64 a1_18]]) ∧ Kd.R k97 97 w' w.heap.size (fun _ => True) v6_ [] ∧ Kd.R k89 89 w' w.heap.size (fun _ => True) v12_ l1_5 ∧ Kd.R (Kd.int .i64) 3 w' w.heap.size (fun _ => True) v23_ l1_16 ∧ Below w.heap.size w w' := by
  have HR5 := Aside0.mk hr1_5
  have HR16 := Aside0.mk hr1_16
  have HL5 := Aside0.mk hl5
  have HL16 := Aside0.mk hl16
  clear hr1_5 hr1_16 hl5 hl16
  go_enter Try.func53, Try.ntmps53
  go_wp2_with (go_at_call 64; fail)
  generalize hW : ((((w.alloc (Obj.cells #[.int .i64 0, .int .i64 0, .int .i64 0, .int .i64 0, .int .i64 0, .int .i64 0, .slice none 0 0] 67)).alloc (Obj.cells #[.int .i64 a1_0, .int .i64 a1_1, .int .i64 a1_2, .int .i64 a1_3, .int .i64 a1_4, .slice A1_5 l1_5.length c1_5, .int .i64 a1_6, .int .i64 a1_7, .bool a1_8, .bool a1_9, .bool a1_10, .bool a1_11, .bool a1_12, .bool a1_13, .bool a1_14, .bool a1_15, .slice A1_16 l1_16.length c1_16, .int .i64 a1_17, .int .i64 a1_18] 55)).alloc (Obj.cells #[.int .i64 0, .int .i64 0, .int .i64 0, .int .i64 0, .int .i64 0, .int .i64 0, .slice none 0 0] 67)).alloc (Obj.cells #[.int .i64 0, .int .i64 0, .int .i64 0, .int .i64 0, .int .i64 0, .slice none 0 0, .int .i64 0, .int .i64 0, .bool false, .bool false, .bool false, .bool false, .bool false, .bool false, .bool false, .bool false, .slice none 0 0, .int .i64 0, .int .i64 0] 55)) = W0
  have K0 : Bks w.heap.size w W0 [(w.heap.size + 1 + 1 + 1, 55, #[.int .i64 0, .int .i64 0, .int .i64 0, .int .i64 0, .int .i64 0, .slice none 0 0, .int .i64 0, .int .i64 0, .bool false, .bool false, .bool false, .bool false, .bool false, .bool false, .bool false, .bool false, .slice none 0 0, .int .i64 0, .int .i64 0]), (w.heap.size + 1 + 1, 67, #[.int .i64 0, .int .i64 0, .int .i64 0, .int .i64 0, .int .i64 0, .int .i64 0, .slice none 0 0]), (w.heap.size + 1, 55, #[.int .i64 a1_0, .int .i64 a1_1, .int .i64 a1_2, .int .i64 a1_3, .int .i64 a1_4, .slice A1_5 l1_5.length c1_5, .int .i64 a1_6, .int .i64 a1_7, .bool a1_8, .bool a1_9, .bool a1_10, .bool a1_11, .bool a1_12, .bool a1_13, .bool a1_14, .bool a1_15, .slice A1_16 l1_16.length c1_16, .int .i64 a1_17, .int .i64 a1_18]), (w.heap.size, 67, #[.int .i64 0, .int .i64 0, .int .i64 0, .int .i64 0, .int .i64 0, .int .i64 0, .slice none 0 0])] := by
    have h1 := (Bks.nil w).alloc (Nat.le_refl _) #[.int .i64 0, .int .i64 0, .int .i64 0, .int .i64 0, .int .i64 0, .int .i64 0, .slice none 0 0] 67
    have h2 := h1.alloc (by simp) #[.int .i64 a1_0, .int .i64 a1_1, .int .i64 a1_2, .int .i64 a1_3, .int .i64 a1_4, .slice A1_5 l1_5.length c1_5, .int .i64 a1_6, .int .i64 a1_7, .bool a1_8, .bool a1_9, .bool a1_10, .bool a1_11, .bool a1_12, .bool a1_13, .bool a1_14, .bool a1_15, .slice A1_16 l1_16.length c1_16, .int .i64 a1_17, .int .i64 a1_18] 55
    have h3 := h2.alloc (by simp; omega) #[.int .i64 0, .int .i64 0, .int .i64 0, .int .i64 0, .int .i64 0, .int .i64 0, .slice none 0 0] 67
    have h4 := h3.alloc (by simp; omega) #[.int .i64 0, .int .i64 0, .int .i64 0, .int .i64 0, .int .i64 0, .slice none 0 0, .int .i64 0, .int .i64 0, .bool false, .bool false, .bool false, .bool false, .bool false, .bool false, .bool false, .bool false, .slice none 0 0, .int .i64 0, .int .i64 0] 55
    rw [hW] at h4
    simpa using h4
  generalize h3 : w.heap.size + 1 + 1 + 1 = g3 at *
  generalize h2 : w.heap.size + 1 + 1 = g2 at *
  generalize h1 : w.heap.size + 1 = g1 at *
  generalize h0 : w.heap.size = g0 at K0 ⊢
  clear hW h1 h2 h3
  have d10 : g1 ≠ g0 := K0.ne 2 3 _ _ (by decide) rfl rfl
  have d01 := Ne.symm d10
  have hs0 := below_size (h0 ▸ K0.below)
  refine (slices_Clone64.calls none 0 [] W0 (Kd.C_nil _ _) (Nat.le_refl _) (by simp)).mono ?_
  rintro _ w1 ⟨v6, rfl, r6, b1⟩
  obtain ⟨Ao6, co6, rfl⟩ := Kd.R_slice r6
  have K1 := Aside0.mk (K0.call (h0 ▸ hs0) b1)
  have R6 := Aside0.mk (row_set (Kd.R_lower r6 hs0) (K1.out.get 3 rfl) (by decide) 6 (.slice Ao6 ([] : List S97).length co6))
  clear K0 r6 b1
  have s1 : w1.cell? ⟨g0, 6, none⟩ = some (.slice none 0 0) := K1.out.cell 3 rfl 6 rfl
  have z1 := blk_frozen (K1.out.get 3 rfl) 6
  have u1 : w1.cell? ⟨g1, 5, none⟩ = some (.slice A1_5 l1_5.length c1_5) := K1.out.cell 2 rfl 5 rfl
  have K2 := Aside0.mk (K1.out.set 3 rfl 6 (.slice Ao6 ([] : List S97).length co6) rfl)
  clear K1
  go_wp2_with (go_at_call 65; fail)
  clear s1 z1 u1
  rw [show (([] : List S97).length) = 0 from rfl] at K2 R6
  generalize w1.setCell ⟨g0, 6, none⟩ (.slice Ao6 0 co6) = w2 at *
  clear w1
  have hs2 := below_size (h0 ▸ K2.out.below)
  refine (slices_Clone65.calls A1_5 c1_5 l1_5 w2 (Kd.C_below HR5.out (h0 ▸ K2.out.below)) hc1_5 HL5.out).mono ?_
  rintro _ w3 ⟨v5, rfl, r5, b3⟩
  obtain ⟨Ao5, co5, rfl⟩ := Kd.R_slice r5
  have K3 := Aside0.mk (K2.out.call (h0 ▸ hs2) b3)
  have R6' := Aside0.mk (row_set (Kd.R_below R6.out b3) (K3.out.get 2 rfl) (by decide) 5 (.slice Ao5 l1_5.length co5))
  have R5 := Aside0.mk (row_set (Kd.R_lower r5 hs2) (K3.out.get 2 rfl) (by decide) 5 (.slice Ao5 l1_5.length co5))
  clear K2 r5 b3 R6
  have s1 : w3.cell? ⟨g1, 5, none⟩ = some (.slice A1_5 l1_5.length c1_5) := K3.out.cell 2 rfl 5 rfl
  have z1 := blk_frozen (K3.out.get 2 rfl) 5
  have u1 : w3.cell? ⟨g1, 16, none⟩ = some (.slice A1_16 l1_16.length c1_16) := K3.out.cell 2 rfl 16 rfl
  have K4 := Aside0.mk (K3.out.set 2 rfl 5 (.slice Ao5 l1_5.length co5) rfl)
  clear K3
  go_wp2_with (go_at_call 66; fail)
  clear s1 z1 u1
  generalize w3.setCell ⟨g1, 5, none⟩ (.slice Ao5 l1_5.length co5) = w4 at *
  clear w3
  have hs4 := below_size (h0 ▸ K4.out.below)
  refine (slices_Clone66.calls A1_16 c1_16 l1_16 w4 (Kd.C_below HR16.out (h0 ▸ K4.out.below)) hc1_16 HL16.out).mono ?_
  rintro _ w5 ⟨v16, rfl, r16, b5⟩
  obtain ⟨Ao16, co16, rfl⟩ := Kd.R_slice r16
  have K5 := Aside0.mk (K4.out.call (h0 ▸ hs4) b5)
  have R6 := Aside0.mk (row_set (Kd.R_below R6'.out b5) (K5.out.get 2 rfl) (by decide) 16 (.slice Ao16 l1_16.length co16))
  have R5' := Aside0.mk (row_set (Kd.R_below R5.out b5) (K5.out.get 2 rfl) (by decide) 16 (.slice Ao16 l1_16.length co16))
  have R16 := Aside0.mk (row_set (Kd.R_lower r16 hs4) (K5.out.get 2 rfl) (by decide) 16 (.slice Ao16 l1_16.length co16))
  clear K4 r16 b5 R6' R5
  have s1 : w5.cell? ⟨g1, 16, none⟩ = some (.slice A1_16 l1_16.length c1_16) := K5.out.cell 2 rfl 16 rfl
  have z1 := blk_frozen (K5.out.get 2 rfl) 16
  have K6 := Aside0.mk (K5.out.set 2 rfl 16 (.slice Ao16 l1_16.length co16) rfl)
  clear K5
  go_wp2
  clear s1 z1
  generalize w5.setCell ⟨g1, 16, none⟩ (.slice Ao16 l1_16.length co16) = w6 at *
  clear w5
  have K7 := Aside0.mk K6.out.drew
  have R67 := Aside0.mk (Kd.R_drew R6.out)
  have R57 := Aside0.mk (Kd.R_drew R5'.out)
  have R167 := Aside0.mk (Kd.R_drew R16.out)
  clear K6 R6 R5' R16
  refine start_ (n := 4) (S := fun w' => w'.heap[g0]? = some (.cells #[.int .i64 0, .int .i64 0, .int .i64 0, .int .i64 0, .int .i64 0, .int .i64 0, .slice Ao6 0 co6] 67 (0, 0)) ∧ w'.heap[g1]? = some (.cells #[.int .i64 a1_0, .int .i64 a1_1, .int .i64 a1_2, .int .i64 a1_3, .int .i64 a1_4, .slice Ao5 l1_5.length co5, .int .i64 a1_6, .int .i64 a1_7, .bool a1_8, .bool a1_9, .bool a1_10, .bool a1_11, .bool a1_12, .bool a1_13, .bool a1_14, .bool a1_15, .slice Ao16 l1_16.length co16, .int .i64 a1_17, .int .i64 a1_18] 55 (0, 0))) (ds := []) #[false, false, false, false] (by kernel_rfl) rfl rfl ⟨K7.out.get 3 rfl, K7.out.get 2 rfl⟩ (fun hHeld => ?_)
  generalize w6.drew = w7 at *
  clear w6
  refine take_ (i := 0) (N := some 18) (v := .agg #[.int .i64 0, .int .i64 0, .int .i64 0, .int .i64 0, .int .i64 0, .int .i64 0, .slice Ao6 0 co6]) (a' := ?_) #[true, false, false, false] rfl rfl (by kernel_rfl) (fun _ _ _ h => h) (load_yields (by rfl) 67 (.tmp 2) rfl rfl (fun _ h => h.1) Try.underlying67 rfl) hHeld ?_ ?_
  rotate_left
  · simp only [Act.put, List.setIfInBounds_toArray, List.set_cons_zero, List.set_cons_succ]
    rfl
  refine take_ (i := 1) (N := some 19) (v := .agg #[.int .i64 a1_0, .int .i64 a1_1, .int .i64 a1_2, .int .i64 a1_3, .int .i64 a1_4, .slice Ao5 l1_5.length co5, .int .i64 a1_6, .int .i64 a1_7, .bool a1_8, .bool a1_9, .bool a1_10, .bool a1_11, .bool a1_12, .bool a1_13, .bool a1_14, .bool a1_15, .slice Ao16 l1_16.length co16, .int .i64 a1_17, .int .i64 a1_18]) (a' := ?_) #[true, true, false, false] rfl rfl (by kernel_rfl) (fun _ _ _ h => h) (load_yields (by rfl) 55 (.tmp 3) rfl rfl (fun _ h => h.2) Try.underlying55 rfl) hHeld ?_ ?_
  rotate_left
  · simp only [Act.put, List.setIfInBounds_toArray, List.set_cons_zero, List.set_cons_succ]
    rfl
  refine one_ (i := 2) (N := none) #[true, true, true, false] rfl rfl (by kernel_rfl) (by decide) (fun K hK => ?_)
  refine store_step (by rfl) rfl 67 (.tmp 4) (.tmp 18) rfl rfl rfl (K7.out.get 1 rfl) rfl rfl (by first | (kernel_rfl) | (simp [Value.oneCell'])) (fun w8 hs => ?_)
  have K8 := Aside0.mk (K7.out.stored 1 rfl hs)
  have R68 := Aside0.mk (row_stored R67.out (K7.out.get 1 rfl) (by decide) hs)
  have R58 := Aside0.mk (row_stored R57.out (K7.out.get 1 rfl) (by decide) hs)
  have R168 := Aside0.mk (row_stored R167.out (K7.out.get 1 rfl) (by decide) hs)
  clear K7 R67 R57 R167 hs
  refine hK.out _ _ ⟨K8.out.get 3 rfl, K8.out.get 2 rfl⟩ (fun hHeld => ?_)
  clear hK K
  refine one_ (i := 3) (N := none) #[true, true, true, true] rfl rfl (by kernel_rfl) (by decide) (fun K hK => ?_)
  refine store_step (by rfl) rfl 55 (.tmp 5) (.tmp 19) rfl rfl rfl (K8.out.get 0 rfl) rfl rfl (by first | (kernel_rfl) | (simp [Value.oneCell'])) (fun w9 hs => ?_)
  have K9 := Aside0.mk (K8.out.stored 0 rfl hs)
  have R69 := row_stored R68.out (K8.out.get 0 rfl) (by decide) hs
  have R59 := row_stored R58.out (K8.out.get 0 rfl) (by decide) hs
  have R169 := row_stored R168.out (K8.out.get 0 rfl) (by decide) hs
  clear K8 R68 R58 R168 hs
  refine hK.out _ _ ⟨K9.out.get 3 rfl, K9.out.get 2 rfl⟩ (fun hHeld => ?_)
  clear hK K
  refine done_ (by kernel_rfl) ?_
  go_wp2
  refine bodyPost_ret (results_cc rfl _ _ g2 g3 67 55 #[.int .i64 0, .int .i64 0, .int .i64 0, .int .i64 0, .int .i64 0, .int .i64 0, .slice Ao6 0 co6] #[.int .i64 a1_0, .int .i64 a1_1, .int .i64 a1_2, .int .i64 a1_3, .int .i64 a1_4, .slice Ao5 l1_5.length co5, .int .i64 a1_6, .int .i64 a1_7, .bool a1_8, .bool a1_9, .bool a1_10, .bool a1_11, .bool a1_12, .bool a1_13, .bool a1_14, .bool a1_15, .slice Ao16 l1_16.length co16, .int .i64 a1_17, .int .i64 a1_18] (0, 0) (0, 0) _ _ rfl (K9.out.get 1 rfl) Try.underlying67 rfl (by kernel_rfl) rfl (K9.out.get 0 rfl) Try.underlying55 rfl (by kernel_rfl)) rfl ?_
  exact ⟨_, _, _, rfl, R69, R59, R169, h0 ▸ K9.out.below⟩
end Go.Proofs.Ytihfopblmjgfaaa.Q

/- ParseQuant: the closure that reads the steps, and the function. Printed by wip/tools/genQuant.py of this session. -/
namespace Go.Proofs.Ytihfopblmjgfaaa.Q
open Go.RowKit Go.Proofs.YtihfopblmjgfaaaW.PrintWords Go.Proofs.YtihfopblmjgfaaaW.PrintLast Go.Proofs.YtihfopblmjgfaaaW.PrintMore
set_option linter.unusedVariables false
set_option linter.unusedSimpArgs false

/-- The steps: the error, the list, the place behind. -/
def quantLoop : Nat → List Int → Int → Int → List Int → Option (Int × List Int × Int)
  | 0, _, _, _, _ => none
  | k + 1, l, p, n, xs => if n > 0 then (if xs.length < 17592186044415 then rdn k l p 2 (fun e => (e, [], 0)) (fun x => quantLoop k l (wrap64 (p + 2)) (wrap64 (n - 1)) (xs ++ [wrap64 (x + 1)])) else none) else some (0, xs, p)
theorem quantLoop.mono : ∀ k l p n xs, LeO (quantLoop k l p n xs) (quantLoop (k + 1) l p n xs)
  | 0, _, _, _, _ => LeO.none _
  | k + 1, l, p, n, xs => by
    rw [quantLoop.eq_2, quantLoop.eq_2]
    exact LeO.ite (LeO.ite (rdn_mono _ _ _ _ _ fun _ => quantLoop.mono _ _ _ _ _) (LeO.refl _)) (LeO.refl _)
def badQuant (e : Int) : Int × Int × List Int × Int := (e, 0, [], 0)
def quantRead (k : Nat) (l : List Int) : Option (Int × Int × List Int × Int) :=
  rdn k l 0 1 badQuant fun d => rdn k l 1 1 badQuant fun n => (quantLoop k l 2 n []).bind fun t => some (if t.1 = 0 then (0, d, t.2.1, t.2.2) else badQuant t.1)
theorem quantRead.mono (k : Nat) (l : List Int) : LeO (quantRead k l) (quantRead (k + 1) l) :=
  rdn_mono _ _ _ _ _ fun _ => rdn_mono _ _ _ _ _ fun _ => LeO.bind (quantLoop.mono _ _ _ _ _) fun _ => LeO.refl _

set_option maxHeartbeats 8000000 in
set_option maxRecDepth 100000 in
theorem quant_closure (k : Nat) (wb w1 : World) (A : Option Addr) (c : Nat) (l : List Int) (hC : Kd.C (Kd.int .u8) wb A l.length l) (hc : l.length ≤ c) (ra g : Nat) (hr1 : g ≠ ra) (l0 : wb.heap.size ≤ ra) (l1 : wb.heap.size ≤ g) (hlr : ra < w1.heap.size) (hlg : g < w1.heap.size)
    (X0 X1 X2 X3 X4 X5 X6 X7 X8 X9 X10 X11 X12 X13 X14 X15 X17 X18 : Value) (hB : Below wb.heap.size wb w1) (br : w1.heap[ra]? = some (.cells #[.slice A l.length c, .int .i64 0] 102 (0, 0))) (b1 : w1.heap[g]? = some (.cells #[X0, X1, X2, X3, X4, X5, X6, X7, X8, X9, X10, X11, X12, X13, X14, X15, .slice none 0 0, X17, X18] 55 (0, 0)))
    (hX : ∃ d0, X17 = .int .i64 d0) (e dead : Int) (xs : List Int) (pe : Int) (h : quantRead k l = some (e, dead, xs, pe)) :
    Calls Try.prog 54 #[.pointer (some ⟨ra, 0, none⟩), .pointer (some ⟨g, 0, none⟩)] w1 fun en w2 => Only (fun k => k = g ∨ k = ra) w1 w2 ∧
      ((∃ p, en = .returned (.tuple #[]) ∧ w2.heap[ra]? = some (.cells #[.slice A l.length c, .int .i64 p] 102 (0, 0)) ∧ (e = 0 ∧ p = pe ∧ ∃ v, w2.heap[g]? = some (.cells #[X0, X1, X2, X3, X4, X5, X6, X7, X8, X9, X10, X11, X12, X13, X14, X15, v, .int .i64 dead, X18] 55 (0, 0)) ∧ Kd.R (Kd.int .i64) 3 w2 wb.heap.size (fun k => w1.heap.size ≤ k) v xs)) ∨
        ∃ e', en = .panicked [{ v := .iface 99 (.agg #[.int .i64 e']), recovered := false }] ∧ (e' = e ∧ e ≠ 0)) := by
  obtain ⟨d0, rfl⟩ := hX
  have H := Aside0.mk h
  have R := RS.mk (S := fun k => k = g ∨ k = ra) br hB (Only.refl _ w1)
  have B1 := Aside0.mk b1
  clear h br hB b1
  go_enter Try.func54, Try.ntmps54
  cases hq0 : marker_ReadUint.f k l 0 1 with
  | none => have h := H.out; simp [quantRead, rdn, hq0] at h
  | some q0 =>
  obtain ⟨x_0, y_0⟩ := q0
  by_cases hy0 : y_0 = 0
  rotate_left
  · have h := H.out
    simp [quantRead, rdn, badQuant, hq0, hy0] at h
    have h' := Aside0.mk h
    clear h
    go_wp2_with (go_at_call 49; (with_reducible refine (reader_uint.calls k ra A c l 0 1 x_0 y_0 _ R.br (Kd.C_below hC R.below) hc hq0).mono ?_); rintro en w' (⟨hne, _, _⟩ | ⟨_, rfl, hd⟩); exact absurd hne hy0)
    obtain ⟨rfl, -⟩ := h'.out
    exact ⟨rfl, (R.drawn hd).only, .inr ⟨_, rfl, rfl, hy0⟩⟩
  go_wp2_with (go_at_call 49; (with_reducible refine (reader_uint.calls k ra A c l 0 1 x_0 y_0 _ R.br (Kd.C_below hC R.below) hc hq0).mono ?_); rintro en w2 (⟨_, rfl, hd⟩ | ⟨hne, _, _⟩); rotate_left; (exact absurd hy0 hne); have R1 := R.read (p' := 1) l0 (.inr rfl) _ hd (by unfold wrap64; omega); have n1 := Aside0.mk (RS.far B1.out hr1 hd); clear B1 hd; have B1 := n1; clear n1; have hcg : w2.cell? ⟨g, 17, none⟩ = some (.int .i64 d0) := (blk_cell B1.out 17).trans rfl; have hzg := blk_frozen B1.out 17)
  clear hcg hzg
  replace R1 := R1.store l1 (.inl rfl) hr1 17 (.int .i64 x_0)
  replace B1 := Aside0.mk (blk_put (cs' := #[X0, X1, X2, X3, X4, X5, X6, X7, X8, X9, X10, X11, X12, X13, X14, X15, .slice none 0 0, .int .i64 x_0, X18]) B1.out 17 (.int .i64 x_0) rfl)
  cases hq1 : marker_ReadUint.f k l 1 1 with
  | none => have h := H.out; simp [quantRead, rdn, hq0, hy0, hq1] at h
  | some q1 =>
  obtain ⟨x_1, y_1⟩ := q1
  by_cases hy1 : y_1 = 0
  rotate_left
  · have h := H.out
    simp [quantRead, rdn, badQuant, hq0, hy0, hq1, hy1] at h
    have h' := Aside0.mk h
    clear h
    go_wp2_with (go_at_call 49; (with_reducible refine (reader_uint.calls k ra A c l 1 1 x_1 y_1 _ R1.br (Kd.C_below hC R1.below) hc hq1).mono ?_); rintro en w' (⟨hne, _, _⟩ | ⟨_, rfl, hd⟩); exact absurd hne hy1)
    obtain ⟨rfl, -⟩ := h'.out
    exact ⟨rfl, (R1.drawn hd).only, .inr ⟨_, rfl, rfl, hy1⟩⟩
  go_wp2_with (go_at_call 49; (with_reducible refine (reader_uint.calls k ra A c l 1 1 x_1 y_1 _ R1.br (Kd.C_below hC R1.below) hc hq1).mono ?_); rintro en w3 (⟨_, rfl, hd⟩ | ⟨hne, _, _⟩); rotate_left; (exact absurd hy1 hne); have R2 := R1.read (p' := 2) l0 (.inr rfl) _ hd (by unfold wrap64; omega); have n1 := Aside0.mk (RS.far B1.out hr1 hd); clear B1 hd; have B1 := n1; clear n1)
  cases hsl : quantLoop k l 2 x_1 [] with
  | none => have h := H.out; simp [quantRead, rdn, hq0, hy0, hq1, hy1, hsl] at h
  | some t =>
  have HT := Aside0.mk (show (if t.1 = 0 then (0, x_0, t.2.1, t.2.2) else badQuant t.1) = (e, dead, xs, pe) by have h := H.out; simpa [quantRead, rdn, hq0, hy0, hq1, hy1, hsl] using h)
  have HSL := Aside0.mk hsl
  clear hsl H hq0 hq1 hy0 hy1
  clear R R1
  have hsz8 : w1.heap.size ≤ w3.heap.size := R2.only.size
  have HR0 := Aside0.mk (Kd.R_nil (Kd.int .i64) 3 w3 wb.heap.size (fun k => w1.heap.size ≤ k))
  go_loopg [3] k (fun kq v3 w' => ∃ (n p : Int) (ys : List Int) (v : Value), v3 = .int .i64 n ∧ Aside0 (quantLoop kq l p n ys = some t) ∧ RS (fun k => k = g ∨ k = ra) wb w1 ra A l.length c p w' ∧ Aside0 (w'.heap[g]? = some (.cells #[X0, X1, X2, X3, X4, X5, X6, X7, X8, X9, X10, X11, X12, X13, X14, X15, v, .int .i64 x_0, X18] 55 (0, 0))) ∧ Aside0 (Kd.R (Kd.int .i64) 3 w' wb.heap.size (fun k => w1.heap.size ≤ k) v ys))
  case atStart => exact ⟨x_1, 2, [], _, rfl, HSL, R2, B1, HR0⟩
  case round =>
    clear HSL R2 B1 HR0 hsz8
    obtain ⟨n, p, ys, v, rfl, HS, R, B1, HR⟩ := hrel
    cases gk with
    | zero => exact absurd HS.out (by simp [quantLoop])
    | succ kk =>
    have hs := HS.out
    clear HS
    rw [quantLoop.eq_2] at hs
    by_cases hn : n > 0
    rotate_left
    · rw [if_neg hn] at hs
      have hn0 : decide (0 < n) = false := decide_eq_false hn
      obtain rfl : (0, ys, p) = t := Option.some.inj hs
      have ht := HT.out
      simp only [if_true, Prod.mk.injEq] at ht
      obtain ⟨rfl, rfl, rfl, rfl⟩ := ht
      clear hs HT
      go_wp2
      go_end0
      first | exact ⟨R.only, .inl ⟨_, rfl, R.br, rfl, rfl, v, B1.out, HR.out⟩⟩ | exact ⟨R.only, rfl, _, R.br, rfl, v, B1.out, HR.out⟩
    rw [if_pos hn] at hs
    have hn1 : decide (0 < n) = true := decide_eq_true hn
    by_cases hlim : ys.length < 17592186044415
    rotate_left
    · rw [if_neg hlim] at hs; exact absurd hs (by simp)
    rw [if_pos hlim] at hs
    have HLIM := Aside0.mk hlim
    clear hlim
    (try simp only [rdn] at hs)
    cases hq2 : marker_ReadUint.f kk l p 2 with
    | none => rw [hq2] at hs; exact absurd hs (by simp)
    | some q2 =>
    obtain ⟨x_2, y_2⟩ := q2
    rw [hq2] at hs
    simp only [Option.bind_some] at hs
    have hs' := Aside0.mk hs
    have HQ := Aside0.mk hq2
    clear hs hq2
    go_wp2
    have R9 := RS.mk (S := fun k => k = g ∨ k = ra) (blk_drew R.br) (below_drew1 R.below) (R.only.trans (Only.of_below (below_drew1 (Below.refl _ _))))
    have B9 := Aside0.mk (blk_drew B1.out)
    have HR9 := Aside0.mk (Kd.R_drew HR.out)
    clear R B1 HR
    obtain ⟨A0, c0, rfl⟩ := Kd.R_slice HR9.out
    refine start_ (n := 9) (S := fun w' => w'.cell? ⟨g, 16, none⟩ = some (.slice A0 ys.length c0)) (ds := [8]) #[false, false, false, false, false, false, false, false, false] (by kernel_rfl) rfl rfl ((blk_cell B9.out 16).trans rfl) (fun hHeld => ?_)
    generalize wr.drew = w4 at *
    refine pure_ (i := 0) (N := some 13) (v := ?_) (a' := ?_) #[true, false, false, false, false, false, false, false, false] rfl rfl (by kernel_rfl) (fun _ _ _ h => h) (Or.inl ⟨by rfl, ?_⟩) ?_ ?_
    rotate_left
    · intro w'
      go_simp
      with_reducible rfl
    rotate_left
    · simp only [Act.put, List.setIfInBounds_toArray, List.set_cons_zero, List.set_cons_succ, i64_w, i32_w]
      rfl
    refine pure_ (i := 2) (N := some 15) (v := ?_) (a' := ?_) #[true, false, true, false, false, false, false, false, false] rfl rfl (by kernel_rfl) (fun _ _ _ h => h) (Or.inl ⟨by rfl, ?_⟩) ?_ ?_
    rotate_left
    · intro w'
      go_simp
      with_reducible rfl
    rotate_left
    · simp only [Act.put, List.setIfInBounds_toArray, List.set_cons_zero, List.set_cons_succ, i64_w, i32_w]
      rfl
    refine take_ (i := 1) (N := some 14) (v := ?_) (a' := ?_) #[true, true, true, false, false, false, false, false, false] rfl rfl (by kernel_rfl) (fun _ _ _ h => h) (Or.inl ⟨by rfl, ?_⟩) hHeld ?_ ?_
    rotate_left
    · intro w' s0
      go_simp
      with_reducible rfl
    rotate_left
    · simp only [Act.put, List.setIfInBounds_toArray, List.set_cons_zero, List.set_cons_succ, i64_w, i32_w]
      rfl
    refine one_ (i := 3) (N := some 16) #[true, true, true, true, false, false, false, false, false] rfl rfl (by kernel_rfl) (by decide) (fun K hK => ?_)
    refine goesP_ Try.func49 (by kernel_rfl) rfl #[.pointer (some ⟨ra, 0, none⟩), .int .i64 2] (by rfl) rfl rfl (by simp only [List.map_toArray, List.map_cons, List.map_nil]; rfl) ?_
    refine (reader_uint.calls kk ra A c l p 2 x_2 y_2 _ R9.br (Kd.C_below hC R9.below) hc HQ.out).mono ?_
    rintro en w5 (⟨hy2, rfl, hd⟩ | ⟨hy2, rfl, hd⟩)
    rotate_left
    · refine .inr ⟨_, rfl, ?_⟩
      have hs := hs'.out
      rw [if_neg hy2] at hs
      obtain rfl : (y_2, [], 0) = t := Option.some.inj hs
      have ht := HT.out
      rw [if_neg hy2] at ht
      simp only [badQuant, Prod.mk.injEq] at ht
      exact ⟨rfl, (R9.drawn hd).only, .inr ⟨_, rfl, ht.1, fun h0 => hy2 (by rw [ht.1]; exact h0)⟩⟩
    refine .inl ⟨_, rfl, ?_⟩
    have hs := hs'.out
    rw [if_pos hy2] at hs
    have HS := Aside0.mk hs
    have R5 := R9.read (p' := wrap64 (p + 2)) l0 (.inr rfl) _ hd rfl
    have B5 := Aside0.mk (RS.far B9.out hr1 hd)
    have HR5 := Aside0.mk (RS.readR HR9.out (fun k hk => by omega) hd)
    clear R9 B9 HR9 hd hs hs' hHeld
    refine hK.out _ _ ((blk_cell B5.out 16).trans rfl) (fun hHeld => ?_)
    clear hK K
    refine norm_ (a' := ?_) ?_ ?_
    rotate_left
    · show Act.put _ (some 16) _ = _
      simp only [Act.put, List.setIfInBounds_toArray, List.set_cons_zero, List.set_cons_succ, i64_w, i32_w]
      rfl
    refine pure_ (i := 4) (N := some 17) (v := ?_) (a' := ?_) #[true, true, true, true, true, false, false, false, false] rfl rfl (by kernel_rfl) (fun _ _ _ h => h) (Or.inl ⟨by rfl, ?_⟩) ?_ ?_
    rotate_left
    · intro w'
      go_simp
      with_reducible rfl
    rotate_left
    · simp only [Act.put, List.setIfInBounds_toArray, List.set_cons_zero, List.set_cons_succ, i64_w, i32_w]
      rfl
    refine one_ (i := 5) (N := some 18) #[true, true, true, true, true, true, false, false, false] rfl rfl (by kernel_rfl) (by decide) (fun K hK => ?_)
    refine value_ (w1 := ?_) (v := ?_) (by rfl) rfl ?_ ?_
    rotate_left 2
    · go_simp
      constructor
      · rfl
      · rfl
    refine hK.out _ _ ((blk_cell (blk_alloc B5.out _) 16).trans rfl) (fun hHeld => ?_)
    clear hK K
    refine norm_ (a' := ?_) ?_ ?_
    rotate_left
    · show Act.put _ (some 18) _ = _
      simp only [Act.put, List.setIfInBounds_toArray, List.set_cons_zero, List.set_cons_succ, i64_w, i32_w]
      rfl
    refine one_ (i := 6) (N := some 19) #[true, true, true, true, true, true, true, false, false] rfl rfl (by kernel_rfl) (by decide) (fun K hK => ?_)
    refine Kd.R_append_step (Kd.int .i64) (w0 := wb) wb.heap.size (by rfl) (.tmp 14) (.tmp 18) 39 3 (.int .i64 0) 8 rfl Try.underlying39 info3 rfl (by decide) (by omega) (.slice A0 ys.length c0) ys (wrap64 (x_2 + 1)) [.int .i64 (wrap64 (x_2 + 1))] (fun k => w1.heap.size ≤ k) (fun _ => False) rfl rfl ?aP (fun _ hk => hk.elim) ?aF ?aO ?aB ?aS ?aL ?_
    (case aP => exact rfl)
    (case aF => exact fun k hk => Nat.le_trans R5.only.size hk)
    (case aO => exact HR5.out)
    (case aB => exact R5.below)
    (case aS => exact R5.below.size)
    (case aL => have := HLIM.out; omega)
    intro v2 w7 ho hb hg hat
    obtain ⟨A2, c2, rfl⟩ := Kd.R_slice ho
    have R7 := R5.grown hb hg HR5.out.1 hlr
    have B7 := Aside0.mk (blk_grown B5.out hg (fun he => by have := HR5.out.1 g he.symm; omega))
    have HR7 := Aside0.mk ho
    clear R5 B5 HR5 ho hb hg hat hHeld
    refine hK.out _ _ ((blk_cell B7.out 16).trans rfl) (fun hHeld => ?_)
    clear hK K
    refine norm_ (a' := ?_) ?_ ?_
    rotate_left
    · show Act.put _ (some 19) _ = _
      simp only [Act.put, List.setIfInBounds_toArray, List.set_cons_zero, List.set_cons_succ, i64_w, i32_w]
      rfl
    refine pure_ (i := 7) (N := some 20) (v := ?_) (a' := ?_) #[true, true, true, true, true, true, true, true, false] rfl rfl (by kernel_rfl) (fun _ _ _ h => h) (Or.inl ⟨by rfl, ?_⟩) ?_ ?_
    rotate_left
    · intro w'
      go_simp
      with_reducible rfl
    rotate_left
    · simp only [Act.put, List.setIfInBounds_toArray, List.set_cons_zero, List.set_cons_succ, i64_w, i32_w]
      rfl
    refine last_ (i := 8) (N := none) #[true, true, true, true, true, true, true, true, true] rfl rfl (by kernel_rfl) (by decide) (fun K hK => ?_)
    have hfs := blk_frozen B7.out 16
    refine skip_ (w1 := ?_) (by rfl) rfl ?_ ?_
    rotate_left
    · go_simp
      rfl
    refine hK.out _ _ ?_
    clear hK K
    refine done_ (by kernel_rfl) ?_
    clear hHeld hfs
    go_wp2
    go_roundg kk
    case measure => omega
    case rel => exact ⟨_, _, ys ++ [wrap64 (x_2 + 1)], _, rfl, HS, R7.store l1 (.inl rfl) hr1 16 _, ⟨blk_put B7.out 16 _ rfl⟩, ⟨by have h6 := Kd.R_far (p := ⟨g, 16, none⟩) HR7.out (fun k hk => by show k ≠ g; omega) (.slice A2 (ys.length + 1) c2); simpa using h6⟩⟩

def headseg_ParseQuant.f (k : Nat) (a0_0 : Int) (l0_1 : List Int) (a1_0 : Int) (a1_1 : Int) (a1_2 : Int) (a1_3 : Int) (a1_4 : Int) (l1_5 : List (S89)) (a1_6 : Int) (a1_7 : Int) (a1_8 : Bool) (a1_9 : Bool) (a1_10 : Bool) (a1_11 : Bool) (a1_12 : Bool) (a1_13 : Bool) (a1_14 : Bool) (a1_15 : Bool) (l1_16 : List Int) (a1_17 : Int) (a1_18 : Int) : Option (Int × Int × Int × Int × Int × (List (S89)) × Int × Int × Bool × Bool × Bool × Bool × Bool × Bool × Bool × Bool × List Int × Int × Int × Int) :=
  (quantRead k l0_1).bind fun t => if l1_5.length < 8796093022208 then (if l1_16.length < 17592186044416 then some (if a0_0 = 65443 then (if t.1 = 0 then (if t.2.2.2 < (l0_1.length : Int) then (0, 0, 0, 0, 0, [], 0, 0, false, false, false, false, false, false, false, false, [], 0, 0, 9) else (a1_0, a1_1, a1_2, a1_3, a1_4, l1_5, a1_6, a1_7, a1_8, a1_9, a1_10, a1_11, a1_12, a1_13, a1_14, a1_15, t.2.2.1, t.2.1, a1_18, 0)) else (0, 0, 0, 0, 0, [], 0, 0, false, false, false, false, false, false, false, false, [], 0, 0, t.1)) else (0, 0, 0, 0, 0, [], 0, 0, false, false, false, false, false, false, false, false, [], 0, 0, 11)) else none) else none
theorem headseg_ParseQuant.mono : ∀ a0 a1 a2 a3 a4 a5 a6 a7 a8 a9 a10 a11 a12 a13 a14 a15 a16 a17 a18 a19 a20 k, LeO (headseg_ParseQuant.f k a0 a1 a2 a3 a4 a5 a6 a7 a8 a9 a10 a11 a12 a13 a14 a15 a16 a17 a18 a19 a20) (headseg_ParseQuant.f (k + 1) a0 a1 a2 a3 a4 a5 a6 a7 a8 a9 a10 a11 a12 a13 a14 a15 a16 a17 a18 a19 a20) := by
  intro a0 a1 a2 a3 a4 a5 a6 a7 a8 a9 a10 a11 a12 a13 a14 a15 a16 a17 a18 a19 a20 k
  exact LeO.bind (quantRead.mono k _) (fun _ => LeO.refl _)
set_option maxHeartbeats 8000000 in
set_option maxRecDepth 100000 in
theorem headseg_ParseQuant.calls (k : Nat) (a0_0 : Int) (A0_1 : Option Addr) (c0_1 : Nat) (l0_1 : List Int) (a1_0 : Int) (a1_1 : Int) (a1_2 : Int) (a1_3 : Int) (a1_4 : Int) (A1_5 : Option Addr) (c1_5 : Nat) (l1_5 : List (S89)) (a1_6 : Int) (a1_7 : Int) (a1_8 : Bool) (a1_9 : Bool) (a1_10 : Bool) (a1_11 : Bool) (a1_12 : Bool) (a1_13 : Bool) (a1_14 : Bool) (a1_15 : Bool) (A1_16 : Option Addr) (c1_16 : Nat) (l1_16 : List Int) (a1_17 : Int) (a1_18 : Int) (r1 : Int) (r2 : Int) (r3 : Int) (r4 : Int) (r5 : Int) (r6 : List (S89)) (r7 : Int) (r8 : Int) (r9 : Bool) (r10 : Bool) (r11 : Bool) (r12 : Bool) (r13 : Bool) (r14 : Bool) (r15 : Bool) (r16 : Bool) (r17 : List Int) (r18 : Int) (r19 : Int) (r20 : Int) (w : World) (hr0_1 : Kd.C (Kd.int .u8) w A0_1 l0_1.length l0_1) (hc0_1 : l0_1.length ≤ c0_1) (hr1_5 : Kd.C k89 w A1_5 l1_5.length l1_5) (hc1_5 : l1_5.length ≤ c1_5) (hr1_16 : Kd.C (Kd.int .i64) w A1_16 l1_16.length l1_16) (hc1_16 : l1_16.length ≤ c1_16) (h : headseg_ParseQuant.f k a0_0 l0_1 a1_0 a1_1 a1_2 a1_3 a1_4 l1_5 a1_6 a1_7 a1_8 a1_9 a1_10 a1_11 a1_12 a1_13 a1_14 a1_15 l1_16 a1_17 a1_18 = some (r1, r2, r3, r4, r5, r6, r7, r8, r9, r10, r11, r12, r13, r14, r15, r16, r17, r18, r19, r20)) :
    Calls Try.prog 30 #[.agg #[.int .i64 a0_0, .slice A0_1 l0_1.length c0_1], .agg #[.int .i64 a1_0, .int .i64 a1_1, .int .i64 a1_2, .int .i64 a1_3, .int .i64 a1_4, .slice A1_5 l1_5.length c1_5, .int .i64 a1_6, .int .i64 a1_7, .bool a1_8, .bool a1_9, .bool a1_10, .bool a1_11, .bool a1_12, .bool a1_13, .bool a1_14, .bool a1_15, .slice A1_16 l1_16.length c1_16, .int .i64 a1_17, .int .i64 a1_18]] w fun e w' => ∃ v5_ v16_ : Value, e = .returned (.tuple #[.agg #[.int .i64 r1, .int .i64 r2, .int .i64 r3, .int .i64 r4, .int .i64 r5, v5_, .int .i64 r7, .int .i64 r8, .bool r9, .bool r10, .bool r11, .bool r12, .bool r13, .bool r14, .bool r15, .bool r16, v16_, .int .i64 r18, .int .i64 r19], .int .i64 r20]) ∧ Kd.R k89 89 w' w.heap.size (fun _ => True) v5_ r6 ∧ Kd.R (Kd.int .i64) 3 w' w.heap.size (fun _ => True) v16_ r17 ∧ Below w.heap.size w w' := by
  cases ht : quantRead k l0_1 with
  | none => simp [headseg_ParseQuant.f, ht] at h
  | some t =>
  obtain ⟨e, dead, xs, pe⟩ := t
  simp only [headseg_ParseQuant.f, ht, Option.bind_some, Option.ite_none_right_eq_some, Option.some.injEq] at h
  obtain ⟨lm5, lm16, h⟩ := h
  have H := Aside0.mk h
  have HT := Aside0.mk ht
  have HR := Aside0.mk hr0_1
  have HC := Aside0.mk hc0_1
  have HR5 := Aside0.mk hr1_5
  have HR16 := Aside0.mk hr1_16
  have HC5 := Aside0.mk hc1_5
  have HC16 := Aside0.mk hc1_16
  have LM := Aside0.mk (And.intro lm5 lm16)
  clear h ht hr0_1 hc0_1 hr1_5 hr1_16 hc1_5 hc1_16 lm5 lm16
  have hmf : ∀ (fn : Fn) (first cap : Array Value) (w : World), (Instr.makeFunc fn first cap).run Try.prog w = .ok (.func fn first cap) w := fun _ _ _ _ => rfl
  have K00 := Aside0.mk (Bks.nil w)
  go_enter Try.func30, Try.ntmps30
  go_wp2_with (first
    | ((with_reducible refine gate_dst (N := 2) rfl ?_); refine box_event ?hg (N := 2) ?hd (cs := #[.int .i64 a0_0, .slice A0_1 l0_1.length c0_1]) (t := 26) ?hr ?_; (case hd => rfl); (case hg => rfl); (case hr => first | (go_simp; done) | (go_simp; rfl)); intro g2 hg W2 hbox hb; have K0 := Aside0.mk (K00.out.box (Nat.le_refl _) hg hbox hb); clear hg hbox hb K00)
    | ((with_reducible refine gate_dst (N := 3) rfl ?_); refine box_event ?hg (N := 3) ?hd (cs := #[.int .i64 a1_0, .int .i64 a1_1, .int .i64 a1_2, .int .i64 a1_3, .int .i64 a1_4, .slice A1_5 l1_5.length c1_5, .int .i64 a1_6, .int .i64 a1_7, .bool a1_8, .bool a1_9, .bool a1_10, .bool a1_11, .bool a1_12, .bool a1_13, .bool a1_14, .bool a1_15, .slice A1_16 l1_16.length c1_16, .int .i64 a1_17, .int .i64 a1_18]) (t := 55) ?hr ?_; (case hd => rfl); (case hg => rfl); (case hr => first | (go_simp; done) | (go_simp; rfl)); intro g3 hg W3 hbox hb; have K1 := Aside0.mk (K0.out.box (below_size K0.out.below) hg hbox hb); clear hg hbox hb K0)
    | ((with_reducible refine gate_dst (N := 4) rfl ?_); refine box_event ?hg (N := 4) ?hd (cs := #[.int .i64 0, .int .i64 0, .int .i64 0, .int .i64 0, .int .i64 0, .slice none 0 0, .int .i64 0, .int .i64 0, .bool false, .bool false, .bool false, .bool false, .bool false, .bool false, .bool false, .bool false, .slice none 0 0, .int .i64 0, .int .i64 0]) (t := 55) ?hr ?_; (case hd => rfl); (case hg => rfl); (case hr => first | (go_simp; done) | (go_simp; rfl)); intro g4 hg W4 hbox hb; have K2 := Aside0.mk (K1.out.box (below_size K1.out.below) hg hbox hb); clear hg hbox hb K1)
    | ((with_reducible refine gate_dst (N := 11) rfl ?_); refine load_ev rfl 55 (.tmp 3) rfl rfl (K2.out.get 1 rfl) Try.underlying55 rfl ?_)
    | (go_at_call 53; fail))
  refine (params_Clone.calls a1_0 a1_1 a1_2 a1_3 a1_4 A1_5 c1_5 l1_5 a1_6 a1_7 a1_8 a1_9 a1_10 a1_11 a1_12 a1_13 a1_14 a1_15 A1_16 c1_16 l1_16 a1_17 a1_18 _ (Kd.C_below HR5.out K2.out.below) HC5.out (Kd.C_below HR16.out K2.out.below) HC16.out (by have := LM.out.1; omega) (by have := LM.out.2; omega)).mono ?_
  rintro _ w3 ⟨v6, v5, v16, rfl, r6, r5, r16, b3⟩
  obtain ⟨Ao6, co6, rfl⟩ := Kd.R_slice r6
  obtain ⟨Ao5, co5, rfl⟩ := Kd.R_slice r5
  obtain ⟨Ao16, co16, rfl⟩ := Kd.R_slice r16
  have K3 := Aside0.mk (K2.out.call (below_size K2.out.below) b3)
  have R5 := Aside0.mk (Kd.R_lower r5 (below_size K2.out.below))
  clear K2 r5 r6 r16 b3
  go_wp2_with (first
    | ((with_reducible refine gate_dst (N := 6) rfl ?_); refine box_event ?hg (N := 6) ?hd (cs := #[.int .i64 0, .int .i64 0, .int .i64 0, .int .i64 0, .int .i64 0, .int .i64 0, .slice none 0 0]) (t := 67) ?hr ?_; (case hd => rfl); (case hg => rfl); (case hr => first | (go_simp; done) | (go_simp; rfl)); intro g6 hg W6 hbox hb; have K4 := Aside0.mk (K3.out.box (below_size K3.out.below) hg hbox hb); have R5a := Aside0.mk (Kd.R_below R5.out hb); clear hg hbox hb K3 R5)
    | ((with_reducible refine gate_dst (N := 7) rfl ?_); refine box_event ?hg (N := 7) ?hd (cs := #[.int .i64 0, .int .i64 0, .int .i64 0, .int .i64 0, .int .i64 0, .slice none 0 0, .int .i64 0, .int .i64 0, .bool false, .bool false, .bool false, .bool false, .bool false, .bool false, .bool false, .bool false, .slice none 0 0, .int .i64 0, .int .i64 0]) (t := 55) ?hr ?_; (case hd => rfl); (case hg => rfl); (case hr => first | (go_simp; done) | (go_simp; rfl)); intro g7 hg W7 hbox hb; have K5 := Aside0.mk (K4.out.box (below_size K4.out.below) hg hbox hb); have R5b := Aside0.mk (Kd.R_below R5a.out hb); clear hg hbox hb K4 R5a)
    | (refine store_ev rfl rfl 67 (.tmp 6) (.tmp 13) rfl rfl rfl (K5.out.get 1 rfl) rfl rfl (by first | (kernel_rfl) | (simp [Value.oneCell'])) ?_; intro W8 hs; have K6 := Aside0.mk (K5.out.stored 1 rfl hs); have R5c := Aside0.mk (row_stored R5b.out (K5.out.get 1 rfl) (by decide) hs); clear hs K5 R5b)
    | (refine store_ev rfl rfl 55 (.tmp 7) (.tmp 14) rfl rfl rfl (K6.out.get 0 rfl) rfl rfl (by first | (kernel_rfl) | (simp [Value.oneCell'])) ?_; intro W9 hs; have K7 := Aside0.mk (K6.out.stored 0 rfl hs); have R5d := Aside0.mk (row_stored R5c.out (K6.out.get 0 rfl) (by decide) hs); clear hs K6 R5c; have hst : W9.cell? ⟨g7, 16, none⟩ = some (.slice Ao16 l1_16.length co16) := K7.out.cell 0 rfl 16 rfl; have hz := blk_frozen (K7.out.get 0 rfl) 16; have K8 := Aside0.mk (K7.out.set 0 rfl 16 (.slice none 0 0) (cs' := #[.int .i64 a1_0, .int .i64 a1_1, .int .i64 a1_2, .int .i64 a1_3, .int .i64 a1_4, .slice Ao5 l1_5.length co5, .int .i64 a1_6, .int .i64 a1_7, .bool a1_8, .bool a1_9, .bool a1_10, .bool a1_11, .bool a1_12, .bool a1_13, .bool a1_14, .bool a1_15, .slice none 0 0, .int .i64 a1_17, .int .i64 a1_18]) rfl); have R5e := Aside0.mk (row_set R5d.out (K7.out.get 0 rfl) (by decide) 16 (.slice none 0 0)); clear K7 R5d)
    | ((with_reducible refine gate_dst (N := 16) rfl ?_); clear hst hz; generalize W9.setCell ⟨g7, 16, none⟩ (.slice none 0 0) = W10 at *; refine load_ev rfl 26 (.tmp 2) rfl rfl (K8.out.get 4 rfl) Try.underlying26 rfl ?_)
    | (go_at_call 47; fail))
  have hl7 : g7 < W10.heap.size := blk_lt (K8.out.get 0 rfl)
  have hg7 : w.heap.size ≤ g7 := K8.out.ge 0 _ rfl
  have hwW : w.heap.size ≤ W10.heap.size := below_size K8.out.below
  have hn47 : g4 ≠ g7 := K8.out.ne 2 0 _ _ (by decide) rfl rfl
  refine (parse.calls 54 (fun _ _ => by simp [go_sem]) #[.pointer (some ⟨g7, 0, none⟩)] (fun ra => #[.pointer (some ⟨ra, 0, none⟩), .pointer (some ⟨g7, 0, none⟩)]) (fun _ => by simp) (fun k => k = g7) a0_0 65443 A0_1 c0_1 l0_1 W10 (Kd.C_below HR.out K8.out.below) HC.out
    (fun p w2 => e = 0 ∧ p = pe ∧ ∃ v, w2.heap[g7]? = some (.cells #[.int .i64 a1_0, .int .i64 a1_1, .int .i64 a1_2, .int .i64 a1_3, .int .i64 a1_4, .slice Ao5 l1_5.length co5, .int .i64 a1_6, .int .i64 a1_7, .bool a1_8, .bool a1_9, .bool a1_10, .bool a1_11, .bool a1_12, .bool a1_13, .bool a1_14, .bool a1_15, v, .int .i64 dead, .int .i64 a1_18] 55 (0, 0)) ∧ Kd.R (Kd.int .i64) 3 w2 w.heap.size (fun k => W10.heap.size + 3 ≤ k) v xs)
    (fun e' w2 => e' = e ∧ e ≠ 0) (fun k hk => by omega) ?ok ?err ?cl).mono ?_
  case ok => exact fun p u1 u2 ⟨q1, q2, v, q3, q4⟩ ho => ⟨q1, q2, v, ho.blk q3 (by omega), Kd.R_step q4 (fun k hk hlt => ho.block k hlt (by omega))⟩
  case err => exact fun p u1 u2 q ho => q
  case cl => exact fun w1 hb1 hra hbr => (quant_closure k w w1 A0_1 c0_1 l0_1 HR.out HC.out (W10.heap.size + 2) g7 (by omega) (by omega) (by omega) (by omega) (by omega) (.int .i64 a1_0) (.int .i64 a1_1) (.int .i64 a1_2) (.int .i64 a1_3) (.int .i64 a1_4) (.slice Ao5 l1_5.length co5) (.int .i64 a1_6) (.int .i64 a1_7) (.bool a1_8) (.bool a1_9) (.bool a1_10) (.bool a1_11) (.bool a1_12) (.bool a1_13) (.bool a1_14) (.bool a1_15) (.int .i64 a1_17) (.int .i64 a1_18) (K8.out.below.trans (hb1.mono (by omega))) hbr (by rw [hb1.block g7 (by omega)]; exact K8.out.get 0 rfl) ⟨_, rfl⟩ e dead xs pe HT.out).mono (fun en w2 ⟨q1, q2⟩ => ⟨q1, q2.imp (fun ⟨p, p1, p2, p3, p4, v, p5, p6⟩ => ⟨p, p1, p2, p3, p4, v, p5, Kd.R_mono p6 (fun k hk => by omega)⟩) id⟩)
  rintro en w2 ⟨y, rfl, ho, hcase⟩
  have HB2 := Aside0.mk (K8.out.below.trans (ho.below (B := w.heap.size) (by omega) (fun k hk => by omega)))
  have BZ := Aside0.mk (ho.blk (K8.out.get 2 rfl) hn47)
  have hg4 : w.heap.size ≤ g4 := K8.out.ge 2 _ rfl
  have R5w := Aside0.mk (Kd.R_mono (ok' := fun _ => True) (Kd.R_step (Kd.R_types R5e.out (K8.out.get 0 rfl) (by decide)) (fun k hk hlt => ho.block k hlt hk.2)) (fun _ _ => trivial))
  have hcase' : (y ≠ 0 ∧ (r1, r2, r3, r4, r5, r6, r7, r8, r9, r10, r11, r12, r13, r14, r15, r16, r17, r18, r19, r20) = (0, 0, 0, 0, 0, [], 0, 0, false, false, false, false, false, false, false, false, [], 0, 0, y)) ∨ (y = 0 ∧ (r1, r2, r3, r4, r5, r6, r7, r8, r9, r10, r11, r12, r13, r14, r15, r16, r17, r18, r19, r20) = (a1_0, a1_1, a1_2, a1_3, a1_4, l1_5, a1_6, a1_7, a1_8, a1_9, a1_10, a1_11, a1_12, a1_13, a1_14, a1_15, xs, dead, a1_18, 0) ∧ ∃ v, w2.heap[g7]? = some (.cells #[.int .i64 a1_0, .int .i64 a1_1, .int .i64 a1_2, .int .i64 a1_3, .int .i64 a1_4, .slice Ao5 l1_5.length co5, .int .i64 a1_6, .int .i64 a1_7, .bool a1_8, .bool a1_9, .bool a1_10, .bool a1_11, .bool a1_12, .bool a1_13, .bool a1_14, .bool a1_15, v, .int .i64 dead, .int .i64 a1_18] 55 (0, 0)) ∧ Kd.R (Kd.int .i64) 3 w2 w.heap.size (fun k => W10.heap.size + 3 ≤ k) v xs) := by
    have h := H.out
    rcases hcase with ⟨hne, rfl, h11⟩ | ⟨heq, ⟨p, ⟨rfl, rfl, v, q3, q4⟩, hy⟩ | ⟨rfl, q2⟩⟩
    · rw [if_neg hne] at h
      exact .inl ⟨by decide, h.symm⟩
    · rw [if_pos heq, if_pos rfl] at h
      by_cases h8 : p < (l0_1.length : Int)
      · rw [if_pos h8] at h hy
        subst hy
        exact .inl ⟨by decide, h.symm⟩
      · rw [if_neg h8] at h hy
        exact .inr ⟨hy, h.symm, v, q3, q4⟩
    · rw [if_pos heq, if_neg q2] at h
      exact .inl ⟨q2, h.symm⟩
  have K8s := Aside0.mk hwW
  clear hcase ho H HT HR HC K8 R5e HR5 HR16 HC5 HC16 LM
  rcases hcase' with ⟨hy, hr⟩ | ⟨hy, hr, v, bg, hR⟩
  · have hy0 : (y == 0) = false := by simpa using hy
    have hy' : (y != 0) = true := by simpa using hy
    simp only [Prod.mk.injEq] at hr
    obtain ⟨rfl, rfl, rfl, rfl, rfl, rfl, rfl, rfl, rfl, rfl, rfl, rfl, rfl, rfl, rfl, rfl, rfl, rfl, rfl, rfl⟩ := hr
    go_wp2_with (refine store_ev rfl rfl 55 (.tmp 4) (.tmp 21) rfl rfl rfl BZ.out rfl rfl (by first | (kernel_rfl) | (simp [Value.oneCell'])) ?_; intro W8 hs; have HBx := hs.below _ _ hg4 HB2.out; have BZx := Aside0.mk hs.blk; clear hs; have RR := Aside0.mk HBx; clear HBx)
    refine bodyPost_ret (results_ct rfl _ _ g4 55 _ (0, 0) _ rfl BZx.out Try.underlying55 rfl (by kernel_rfl)) rfl ?_
    exact ⟨_, _, rfl, Kd.R_nil k89 89 _ _ _, Kd.R_nil (Kd.int .i64) 3 _ _ _, RR.out⟩
  · subst hy
    simp only [Prod.mk.injEq] at hr
    obtain ⟨rfl, rfl, rfl, rfl, rfl, rfl, rfl, rfl, rfl, rfl, rfl, rfl, rfl, rfl, rfl, rfl, rfl, rfl, rfl, rfl⟩ := hr
    obtain ⟨Ax, cx, rfl⟩ := Kd.R_slice hR
    have BG := Aside0.mk bg
    have HRx := Aside0.mk hR
    clear bg hR
    go_wp2_with (first
      | ((with_reducible refine gate_dst (N := 23) rfl ?_); refine load_ev rfl 55 (.tmp 7) rfl rfl BG.out Try.underlying55 rfl ?_)
      | (refine store_ev rfl rfl 55 (.tmp 4) (.tmp 23) rfl rfl rfl BZ.out rfl rfl (by first | (kernel_rfl) | (simp [Value.oneCell'])) ?_; intro W8 hs; have R5x := row_stored R5w.out BZ.out (by decide) hs; have RSx := row_stored (Kd.R_mono (ok' := fun _ => True) HRx.out (fun _ _ => trivial)) BZ.out (by decide) hs; have HBx := hs.below _ _ hg4 HB2.out; have BZx := Aside0.mk hs.blk; clear hs; have RR := Aside0.mk (And.intro R5x (And.intro RSx HBx)); clear R5x RSx HBx))
    refine bodyPost_ret (results_ct rfl _ _ g4 55 _ (0, 0) _ rfl BZx.out Try.underlying55 rfl (by kernel_rfl)) rfl ?_
    exact ⟨_, _, rfl, RR.out.1, RR.out.2.1, RR.out.2.2⟩
end Go.Proofs.Ytihfopblmjgfaaa.Q

/- Printed walk, shortened (wip/tools/unmerge.py). -/
namespace Go.Proofs.Ytihfopblmjgfaaa.Q
open Go.RowKit Go.Proofs.YtihfopblmjgfaaaW.PrintWords Go.Proofs.YtihfopblmjgfaaaW.PrintLast Go.Proofs.YtihfopblmjgfaaaW.PrintMore
attribute [local go_sem] max2_int min2_int max_two min_two max_three min_three max_four min_four   -- for this text's walks alone
set_option linter.unusedVariables false
set_option linter.unusedSimpArgs false

/-! ### rect_Valid: function 67 -/
def rect_Valid.f (a0_0 : Int) (a0_1 : Int) (a0_2 : Int) (a0_3 : Int) : Option (Bool) := if 0 ≤ a0_0 then (if a0_0 ≤ a0_2 then (if a0_2 ≤ 4096 then (if 0 ≤ a0_1 then (if a0_1 ≤ a0_3 then (some (decide (a0_3 ≤ 4096))) else (some false)) else (some false)) else (some false)) else (some false)) else (some false)
set_option maxHeartbeats 8000000 in
set_option maxRecDepth 100000 in
theorem rect_Valid.calls (a0_0 : Int) (a0_1 : Int) (a0_2 : Int) (a0_3 : Int) (r : Bool) (w : World) (h : rect_Valid.f a0_0 a0_1 a0_2 a0_3 = some r) :
    Calls Try.prog 67 #[.agg #[.int .i64 a0_0, .int .i64 a0_1, .int .i64 a0_2, .int .i64 a0_3]] w fun e w' => e = .returned (.bool r) ∧ Below w.heap.size w w' := by
  have hu64 := Try.underlying64
  have HB := Aside0.mk (Below.refl w.heap.size w)
  have H : (if 0 ≤ a0_0 then (if a0_0 ≤ a0_2 then (if a0_2 ≤ 4096 then (if 0 ≤ a0_1 then (if a0_1 ≤ a0_3 then (some (decide (a0_3 ≤ 4096))) else (some false)) else (some false)) else (some false)) else (some false)) else (some false)) = some r := h
  clear h
  by_cases c2 : 0 ≤ a0_0
  · rw [if_pos c2] at H
    have c2b0 : decide (0 ≤ a0_0) = true := decide_eq_true c2
    clear c2
    by_cases c3 : a0_0 ≤ a0_2
    · rw [if_pos c3] at H
      have c3b0 : decide (a0_0 ≤ a0_2) = true := decide_eq_true c3
      clear c3
      by_cases c4 : a0_2 ≤ 4096
      · rw [if_pos c4] at H
        have c4b0 : decide (a0_2 ≤ 4096) = true := decide_eq_true c4
        clear c4
        by_cases c5 : 0 ≤ a0_1
        · rw [if_pos c5] at H
          have c5b0 : decide (0 ≤ a0_1) = true := decide_eq_true c5
          clear c5
          by_cases c6 : a0_1 ≤ a0_3
          · rw [if_pos c6] at H
            have c6b0 : decide (a0_1 ≤ a0_3) = true := decide_eq_true c6
            clear c6
            obtain rfl := Option.some.inj H
            go_enter Try.func67, Try.ntmps67
            go_wp2_with (first | ((with_reducible refine gate_dst (N := 1) rfl ?_); refine box_event ?hg (N := 1) ?hd (cs := #[.int .i64 a0_0, .int .i64 a0_1, .int .i64 a0_2, .int .i64 a0_3]) (t := 64) ?hr ?_; (case hd => rfl); (case hg => rfl); (case hr => first | (go_simp; done) | (go_simp; rfl)); intro gb749 hg w7 hbox hb; have BK749 := Aside0.mk (hbox); have GW749 := Aside0.mk ((by rw [hg]; exact (below_size (upB HB.out)) : w.heap.size ≤ gb749)); have GE749 := Aside0.mk ((by rw [hg]; exact (below_size (upB HB.out)) : w.heap.size ≤ gb749)); replace HB := Aside0.mk (below_step (upB HB.out) hb); clear hb hbox hg; have hcz8_0 : w7.cell? ⟨gb749, 0, none⟩ = some (.int .i64 a0_0) := bc BK749 0; have hcz8_1 : w7.cell? ⟨gb749, 1, none⟩ = some (.int .i64 a0_1) := bc BK749 1; have hcz8_2 : w7.cell? ⟨gb749, 2, none⟩ = some (.int .i64 a0_2) := bc BK749 2; have hcz8_3 : w7.cell? ⟨gb749, 3, none⟩ = some (.int .i64 a0_3) := bc BK749 3; have hfz8_0 := blk_frozen BK749.out 0; have hfz8_1 := blk_frozen BK749.out 1; have hfz8_2 := blk_frozen BK749.out 2; have hfz8_3 := blk_frozen BK749.out 3))
            go_ret
            exact ⟨by first | rfl | (simp [errW_none, errW_some] <;> rfl) | (simp [*, errW_none, errW_some] <;> rfl), by repeat (first | (with_reducible first | exact HB.out | apply below_alloc | apply pw_below_drewN | apply below_drew1 | refine below_set ?_ GE749.out) | exact HB.out)⟩
          · rw [if_neg c6] at H
            have c6b0 : decide (a0_1 ≤ a0_3) = false := decide_eq_false c6
            clear c6
            obtain rfl := Option.some.inj H
            go_enter Try.func67, Try.ntmps67
            go_wp2_with (first | ((with_reducible refine gate_dst (N := 1) rfl ?_); refine box_event ?hg (N := 1) ?hd (cs := #[.int .i64 a0_0, .int .i64 a0_1, .int .i64 a0_2, .int .i64 a0_3]) (t := 64) ?hr ?_; (case hd => rfl); (case hg => rfl); (case hr => first | (go_simp; done) | (go_simp; rfl)); intro gb749 hg w9 hbox hb; have BK749 := Aside0.mk (hbox); have GW749 := Aside0.mk ((by rw [hg]; exact (below_size (upB HB.out)) : w.heap.size ≤ gb749)); have GE749 := Aside0.mk ((by rw [hg]; exact (below_size (upB HB.out)) : w.heap.size ≤ gb749)); replace HB := Aside0.mk (below_step (upB HB.out) hb); clear hb hbox hg; have hcz10_0 : w9.cell? ⟨gb749, 0, none⟩ = some (.int .i64 a0_0) := bc BK749 0; have hcz10_1 : w9.cell? ⟨gb749, 1, none⟩ = some (.int .i64 a0_1) := bc BK749 1; have hcz10_2 : w9.cell? ⟨gb749, 2, none⟩ = some (.int .i64 a0_2) := bc BK749 2; have hcz10_3 : w9.cell? ⟨gb749, 3, none⟩ = some (.int .i64 a0_3) := bc BK749 3; have hfz10_0 := blk_frozen BK749.out 0; have hfz10_1 := blk_frozen BK749.out 1; have hfz10_2 := blk_frozen BK749.out 2; have hfz10_3 := blk_frozen BK749.out 3))
            go_ret
            exact ⟨by first | rfl | (simp [errW_none, errW_some] <;> rfl) | (simp [*, errW_none, errW_some] <;> rfl), by repeat (first | (with_reducible first | exact HB.out | apply below_alloc | apply pw_below_drewN | apply below_drew1 | refine below_set ?_ GE749.out) | exact HB.out)⟩
        · rw [if_neg c5] at H
          have c5b0 : decide (0 ≤ a0_1) = false := decide_eq_false c5
          clear c5
          obtain rfl := Option.some.inj H
          go_enter Try.func67, Try.ntmps67
          go_wp2_with (first | ((with_reducible refine gate_dst (N := 1) rfl ?_); refine box_event ?hg (N := 1) ?hd (cs := #[.int .i64 a0_0, .int .i64 a0_1, .int .i64 a0_2, .int .i64 a0_3]) (t := 64) ?hr ?_; (case hd => rfl); (case hg => rfl); (case hr => first | (go_simp; done) | (go_simp; rfl)); intro gb749 hg w11 hbox hb; have BK749 := Aside0.mk (hbox); have GW749 := Aside0.mk ((by rw [hg]; exact (below_size (upB HB.out)) : w.heap.size ≤ gb749)); have GE749 := Aside0.mk ((by rw [hg]; exact (below_size (upB HB.out)) : w.heap.size ≤ gb749)); replace HB := Aside0.mk (below_step (upB HB.out) hb); clear hb hbox hg; have hcz12_0 : w11.cell? ⟨gb749, 0, none⟩ = some (.int .i64 a0_0) := bc BK749 0; have hcz12_1 : w11.cell? ⟨gb749, 1, none⟩ = some (.int .i64 a0_1) := bc BK749 1; have hcz12_2 : w11.cell? ⟨gb749, 2, none⟩ = some (.int .i64 a0_2) := bc BK749 2; have hcz12_3 : w11.cell? ⟨gb749, 3, none⟩ = some (.int .i64 a0_3) := bc BK749 3; have hfz12_0 := blk_frozen BK749.out 0; have hfz12_1 := blk_frozen BK749.out 1; have hfz12_2 := blk_frozen BK749.out 2; have hfz12_3 := blk_frozen BK749.out 3))
          go_ret
          exact ⟨by first | rfl | (simp [errW_none, errW_some] <;> rfl) | (simp [*, errW_none, errW_some] <;> rfl), by repeat (first | (with_reducible first | exact HB.out | apply below_alloc | apply pw_below_drewN | apply below_drew1 | refine below_set ?_ GE749.out) | exact HB.out)⟩
      · rw [if_neg c4] at H
        have c4b0 : decide (a0_2 ≤ 4096) = false := decide_eq_false c4
        clear c4
        obtain rfl := Option.some.inj H
        go_enter Try.func67, Try.ntmps67
        go_wp2_with (first | ((with_reducible refine gate_dst (N := 1) rfl ?_); refine box_event ?hg (N := 1) ?hd (cs := #[.int .i64 a0_0, .int .i64 a0_1, .int .i64 a0_2, .int .i64 a0_3]) (t := 64) ?hr ?_; (case hd => rfl); (case hg => rfl); (case hr => first | (go_simp; done) | (go_simp; rfl)); intro gb749 hg w13 hbox hb; have BK749 := Aside0.mk (hbox); have GW749 := Aside0.mk ((by rw [hg]; exact (below_size (upB HB.out)) : w.heap.size ≤ gb749)); have GE749 := Aside0.mk ((by rw [hg]; exact (below_size (upB HB.out)) : w.heap.size ≤ gb749)); replace HB := Aside0.mk (below_step (upB HB.out) hb); clear hb hbox hg; have hcz14_0 : w13.cell? ⟨gb749, 0, none⟩ = some (.int .i64 a0_0) := bc BK749 0; have hcz14_1 : w13.cell? ⟨gb749, 1, none⟩ = some (.int .i64 a0_1) := bc BK749 1; have hcz14_2 : w13.cell? ⟨gb749, 2, none⟩ = some (.int .i64 a0_2) := bc BK749 2; have hcz14_3 : w13.cell? ⟨gb749, 3, none⟩ = some (.int .i64 a0_3) := bc BK749 3; have hfz14_0 := blk_frozen BK749.out 0; have hfz14_1 := blk_frozen BK749.out 1; have hfz14_2 := blk_frozen BK749.out 2; have hfz14_3 := blk_frozen BK749.out 3))
        go_ret
        exact ⟨by first | rfl | (simp [errW_none, errW_some] <;> rfl) | (simp [*, errW_none, errW_some] <;> rfl), by repeat (first | (with_reducible first | exact HB.out | apply below_alloc | apply pw_below_drewN | apply below_drew1 | refine below_set ?_ GE749.out) | exact HB.out)⟩
    · rw [if_neg c3] at H
      have c3b0 : decide (a0_0 ≤ a0_2) = false := decide_eq_false c3
      clear c3
      obtain rfl := Option.some.inj H
      go_enter Try.func67, Try.ntmps67
      go_wp2_with (first | ((with_reducible refine gate_dst (N := 1) rfl ?_); refine box_event ?hg (N := 1) ?hd (cs := #[.int .i64 a0_0, .int .i64 a0_1, .int .i64 a0_2, .int .i64 a0_3]) (t := 64) ?hr ?_; (case hd => rfl); (case hg => rfl); (case hr => first | (go_simp; done) | (go_simp; rfl)); intro gb749 hg w15 hbox hb; have BK749 := Aside0.mk (hbox); have GW749 := Aside0.mk ((by rw [hg]; exact (below_size (upB HB.out)) : w.heap.size ≤ gb749)); have GE749 := Aside0.mk ((by rw [hg]; exact (below_size (upB HB.out)) : w.heap.size ≤ gb749)); replace HB := Aside0.mk (below_step (upB HB.out) hb); clear hb hbox hg; have hcz16_0 : w15.cell? ⟨gb749, 0, none⟩ = some (.int .i64 a0_0) := bc BK749 0; have hcz16_1 : w15.cell? ⟨gb749, 1, none⟩ = some (.int .i64 a0_1) := bc BK749 1; have hcz16_2 : w15.cell? ⟨gb749, 2, none⟩ = some (.int .i64 a0_2) := bc BK749 2; have hcz16_3 : w15.cell? ⟨gb749, 3, none⟩ = some (.int .i64 a0_3) := bc BK749 3; have hfz16_0 := blk_frozen BK749.out 0; have hfz16_1 := blk_frozen BK749.out 1; have hfz16_2 := blk_frozen BK749.out 2; have hfz16_3 := blk_frozen BK749.out 3))
      go_ret
      exact ⟨by first | rfl | (simp [errW_none, errW_some] <;> rfl) | (simp [*, errW_none, errW_some] <;> rfl), by repeat (first | (with_reducible first | exact HB.out | apply below_alloc | apply pw_below_drewN | apply below_drew1 | refine below_set ?_ GE749.out) | exact HB.out)⟩
  · rw [if_neg c2] at H
    have c2b0 : decide (0 ≤ a0_0) = false := decide_eq_false c2
    clear c2
    obtain rfl := Option.some.inj H
    go_enter Try.func67, Try.ntmps67
    go_wp2_with (first | ((with_reducible refine gate_dst (N := 1) rfl ?_); refine box_event ?hg (N := 1) ?hd (cs := #[.int .i64 a0_0, .int .i64 a0_1, .int .i64 a0_2, .int .i64 a0_3]) (t := 64) ?hr ?_; (case hd => rfl); (case hg => rfl); (case hr => first | (go_simp; done) | (go_simp; rfl)); intro gb749 hg w17 hbox hb; have BK749 := Aside0.mk (hbox); have GW749 := Aside0.mk ((by rw [hg]; exact (below_size (upB HB.out)) : w.heap.size ≤ gb749)); have GE749 := Aside0.mk ((by rw [hg]; exact (below_size (upB HB.out)) : w.heap.size ≤ gb749)); replace HB := Aside0.mk (below_step (upB HB.out) hb); clear hb hbox hg; have hcz18_0 : w17.cell? ⟨gb749, 0, none⟩ = some (.int .i64 a0_0) := bc BK749 0; have hcz18_1 : w17.cell? ⟨gb749, 1, none⟩ = some (.int .i64 a0_1) := bc BK749 1; have hcz18_2 : w17.cell? ⟨gb749, 2, none⟩ = some (.int .i64 a0_2) := bc BK749 2; have hcz18_3 : w17.cell? ⟨gb749, 3, none⟩ = some (.int .i64 a0_3) := bc BK749 3; have hfz18_0 := blk_frozen BK749.out 0; have hfz18_1 := blk_frozen BK749.out 1; have hfz18_2 := blk_frozen BK749.out 2; have hfz18_3 := blk_frozen BK749.out 3))
    go_ret
    exact ⟨by first | rfl | (simp [errW_none, errW_some] <;> rfl) | (simp [*, errW_none, errW_some] <;> rfl), by repeat (first | (with_reducible first | exact HB.out | apply below_alloc | apply pw_below_drewN | apply below_drew1 | refine below_set ?_ GE749.out) | exact HB.out)⟩

end Go.Proofs.Ytihfopblmjgfaaa.Q

/- Printed walk, shortened (wip/tools/unmerge.py). -/
namespace Go.Proofs.Ytihfopblmjgfaaa.Q
open Go.RowKit Go.Proofs.YtihfopblmjgfaaaW.PrintWords Go.Proofs.YtihfopblmjgfaaaW.PrintLast Go.Proofs.YtihfopblmjgfaaaW.PrintMore
attribute [local go_sem] max2_int min2_int max_two min_two max_three min_three max_four min_four   -- for this text's walks alone
set_option linter.unusedVariables false
set_option linter.unusedSimpArgs false

/-! ### rect_Empty: function 68 -/
def rect_Empty.f (a0_0 : Int) (a0_1 : Int) (a0_2 : Int) (a0_3 : Int) : Option (Bool) := if a0_0 ≥ a0_2 then (some true) else (some (decide (a0_1 ≥ a0_3)))
set_option maxHeartbeats 8000000 in
set_option maxRecDepth 100000 in
theorem rect_Empty.calls (a0_0 : Int) (a0_1 : Int) (a0_2 : Int) (a0_3 : Int) (r : Bool) (w : World) (h : rect_Empty.f a0_0 a0_1 a0_2 a0_3 = some r) :
    Calls Try.prog 68 #[.agg #[.int .i64 a0_0, .int .i64 a0_1, .int .i64 a0_2, .int .i64 a0_3]] w fun e w' => e = .returned (.bool r) ∧ Below w.heap.size w w' := by
  have hu64 := Try.underlying64
  have HB := Aside0.mk (Below.refl w.heap.size w)
  have H : (if a0_0 ≥ a0_2 then (some true) else (some (decide (a0_1 ≥ a0_3)))) = some r := h
  clear h
  by_cases c2 : a0_0 ≥ a0_2
  · rw [if_pos c2] at H
    have c2b0 : decide (a0_2 ≤ a0_0) = true := decide_eq_true c2
    clear c2
    obtain rfl := Option.some.inj H
    go_enter Try.func68, Try.ntmps68
    go_wp2_with (first | ((with_reducible refine gate_dst (N := 1) rfl ?_); refine box_event ?hg (N := 1) ?hd (cs := #[.int .i64 a0_0, .int .i64 a0_1, .int .i64 a0_2, .int .i64 a0_3]) (t := 64) ?hr ?_; (case hd => rfl); (case hg => rfl); (case hr => first | (go_simp; done) | (go_simp; rfl)); intro gb750 hg w3 hbox hb; have BK750 := Aside0.mk (hbox); have GW750 := Aside0.mk ((by rw [hg]; exact (below_size (upB HB.out)) : w.heap.size ≤ gb750)); have GE750 := Aside0.mk ((by rw [hg]; exact (below_size (upB HB.out)) : w.heap.size ≤ gb750)); replace HB := Aside0.mk (below_step (upB HB.out) hb); clear hb hbox hg; have hcz4_0 : w3.cell? ⟨gb750, 0, none⟩ = some (.int .i64 a0_0) := bc BK750 0; have hcz4_1 : w3.cell? ⟨gb750, 1, none⟩ = some (.int .i64 a0_1) := bc BK750 1; have hcz4_2 : w3.cell? ⟨gb750, 2, none⟩ = some (.int .i64 a0_2) := bc BK750 2; have hcz4_3 : w3.cell? ⟨gb750, 3, none⟩ = some (.int .i64 a0_3) := bc BK750 3; have hfz4_0 := blk_frozen BK750.out 0; have hfz4_1 := blk_frozen BK750.out 1; have hfz4_2 := blk_frozen BK750.out 2; have hfz4_3 := blk_frozen BK750.out 3))
    go_ret
    exact ⟨by first | rfl | (simp [errW_none, errW_some] <;> rfl) | (simp [*, errW_none, errW_some] <;> rfl), by repeat (first | (with_reducible first | exact HB.out | apply below_alloc | apply pw_below_drewN | apply below_drew1 | refine below_set ?_ GE750.out) | exact HB.out)⟩
  · rw [if_neg c2] at H
    have c2b0 : decide (a0_2 ≤ a0_0) = false := decide_eq_false c2
    clear c2
    obtain rfl := Option.some.inj H
    go_enter Try.func68, Try.ntmps68
    go_wp2_with (first | ((with_reducible refine gate_dst (N := 1) rfl ?_); refine box_event ?hg (N := 1) ?hd (cs := #[.int .i64 a0_0, .int .i64 a0_1, .int .i64 a0_2, .int .i64 a0_3]) (t := 64) ?hr ?_; (case hd => rfl); (case hg => rfl); (case hr => first | (go_simp; done) | (go_simp; rfl)); intro gb750 hg w5 hbox hb; have BK750 := Aside0.mk (hbox); have GW750 := Aside0.mk ((by rw [hg]; exact (below_size (upB HB.out)) : w.heap.size ≤ gb750)); have GE750 := Aside0.mk ((by rw [hg]; exact (below_size (upB HB.out)) : w.heap.size ≤ gb750)); replace HB := Aside0.mk (below_step (upB HB.out) hb); clear hb hbox hg; have hcz6_0 : w5.cell? ⟨gb750, 0, none⟩ = some (.int .i64 a0_0) := bc BK750 0; have hcz6_1 : w5.cell? ⟨gb750, 1, none⟩ = some (.int .i64 a0_1) := bc BK750 1; have hcz6_2 : w5.cell? ⟨gb750, 2, none⟩ = some (.int .i64 a0_2) := bc BK750 2; have hcz6_3 : w5.cell? ⟨gb750, 3, none⟩ = some (.int .i64 a0_3) := bc BK750 3; have hfz6_0 := blk_frozen BK750.out 0; have hfz6_1 := blk_frozen BK750.out 1; have hfz6_2 := blk_frozen BK750.out 2; have hfz6_3 := blk_frozen BK750.out 3))
    go_ret
    exact ⟨by first | rfl | (simp [errW_none, errW_some] <;> rfl) | (simp [*, errW_none, errW_some] <;> rfl), by repeat (first | (with_reducible first | exact HB.out | apply below_alloc | apply pw_below_drewN | apply below_drew1 | refine below_set ?_ GE750.out) | exact HB.out)⟩

end Go.Proofs.Ytihfopblmjgfaaa.Q

/- Printed walk, shortened (wip/tools/unmerge.py). -/
namespace Go.Proofs.Ytihfopblmjgfaaa.Q
open Go.RowKit Go.Proofs.YtihfopblmjgfaaaW.PrintWords Go.Proofs.YtihfopblmjgfaaaW.PrintLast Go.Proofs.YtihfopblmjgfaaaW.PrintMore
attribute [local go_sem] max2_int min2_int max_two min_two max_three min_three max_four min_four   -- for this text's walks alone
set_option linter.unusedVariables false
set_option linter.unusedSimpArgs false

/-! ### params_within: function 69 -/
def params_within.l0 : Nat → Int → Int → List Int → Int → Int → Option (Bool)
  | 0, _, _, _, _, _ => none
  | k + 1, x0, x1, x9, x10, x11 => if x11 < x10 then (if 0 ≤ x11 then (if x11 < (x9.length : Int) then (if (rd x9 x11) < x0 then (some false) else (if (rd x9 x11) > x1 then (some false) else (params_within.l0 k x0 x1 x9 x10 (wrap64 (x11 + 1))))) else (none)) else (none)) else (some true)
def params_within.f (k : Nat) (a0 : Int) (a1 : Int) (l2 : List Int) : Option (Bool) := params_within.l0 k a0 a1 l2 (l2.length : Int) 0
theorem params_within.mono_l : ∀ k, (∀ y0 y1 y2 y3 y4, LeO (params_within.l0 k y0 y1 y2 y3 y4) (params_within.l0 (k + 1) y0 y1 y2 y3 y4))
  | 0 => fun _ _ _ _ _ r h => by simp [params_within.l0] at h
  | k + 1 => by
    have ih0 := params_within.mono_l k
    · intro y0 y1 y2 y3 y4
      unfold params_within.l0
      repeat' first
      | (with_reducible exact ih0 _ _ _ _ _)
      | (with_reducible exact LeO.refl _)
      | (with_reducible exact LeO.none _)
      | (with_reducible refine LeO.ite ?_ ?_)
      | (with_reducible refine LeO.bind ?_ (fun _ => ?_))
      | exact ih0 _ _ _ _ _
      | exact LeO.none _
      | refine LeO.ite ?_ ?_
      | refine LeO.bind ?_ (fun _ => ?_)
theorem params_within.mono : ∀ a0 a1 a2 k, LeO (params_within.f k a0 a1 a2) (params_within.f (k + 1) a0 a1 a2) := by
  intro a0 a1 a2 k
  have ih0 := params_within.mono_l k
  unfold params_within.f
  repeat' first
      | (with_reducible exact ih0 _ _ _ _ _)
      | (with_reducible exact LeO.refl _)
      | (with_reducible exact LeO.none _)
      | (with_reducible refine LeO.ite ?_ ?_)
      | (with_reducible refine LeO.bind ?_ (fun _ => ?_))
      | exact ih0 _ _ _ _ _
      | exact LeO.none _
      | refine LeO.ite ?_ ?_
      | refine LeO.bind ?_ (fun _ => ?_)
set_option maxHeartbeats 8000000 in
set_option maxRecDepth 100000 in
theorem params_within.calls (k : Nat) (a0 : Int) (a1 : Int) (A2 : Option Addr) (c2 : Nat) (l2 : List Int) (r : Bool) (w : World) (hr2 : Kd.C (Kd.int .i64) w A2 l2.length l2) (hc2 : l2.length ≤ c2) (h : params_within.f k a0 a1 l2 = some r) :
    Calls Try.prog 69 #[.int .i64 a0, .int .i64 a1, .slice A2 l2.length c2] w fun e w' => e = .returned (.bool r) ∧ Drawn0 w w' := by
  have HR2 := Aside0.mk hr2
  have HC2 := Aside0.mk hc2
  clear hr2 hc2
  have H : (params_within.l0 k a0 a1 l2 (l2.length : Int) 0) = some r := h
  clear h
  have H' := Aside0.mk H
  clear H
  go_enter Try.func69, Try.ntmps69
  go_wp2
  go_loopg [11] k (fun kq v11 w' => ∃ (x11_1 : Int), v11 = .int .i64 x11_1 ∧ Aside0 (params_within.l0 kq a0 a1 l2 (l2.length : Int) x11_1 = some r) ∧ Aside0 (kq ≤ k) ∧ Drawn0 w w')
  case atStart => exact ⟨(0), (by first | rfl | (simp; done) | (simp [*]; done)), H', ⟨Nat.le_refl _⟩, by repeat (first | exact Drawn0.refl _ | apply Drawn0.step)⟩
  case round =>
    clear H'
    try clear c2
    try clear p2
    obtain ⟨x11_1, rfl, HA, HK1, ⟨m1, rfl⟩⟩ := hrel
    cases gk with
    | zero => exact absurd HA.out (by simp [params_within.l0])
    | succ k1 =>
      have H := HA.out
      clear HA
      simp only [params_within.l0] at H
      by_cases c4 : x11_1 < (l2.length : Int)
      · rw [if_pos c4] at H
        have c4b0 : decide (x11_1 < (l2.length : Int)) = true := decide_eq_true c4
        clear c4
        by_cases c5 : 0 ≤ x11_1
        · rw [if_pos c5] at H
          have c5b0 : decide (0 ≤ x11_1) = true := decide_eq_true c5
          clear c5
          by_cases c6 : x11_1 < (l2.length : Int)
          · rw [if_pos c6] at H
            have c6b0 : decide (x11_1 < (l2.length : Int)) = true := decide_eq_true c6
            clear c6
            by_cases c7 : (rd l2 x11_1) < a0
            · rw [if_pos c7] at H
              have c7b0 : decide ((rd l2 x11_1) < a0) = true := decide_eq_true c7
              clear c7
              obtain rfl := Option.some.inj H
              have p751 : 0 ≤ (x11_1 : Int) := of_decide_eq_true (by first | (with_reducible assumption) | assumption)
              have q751 : x11_1 < (l2.length : Int) := of_decide_eq_true (by first | (with_reducible assumption) | assumption)
              obtain ⟨ad751, e751, hx751_0⟩ := Kd.at_int HR2.out x11_1 p751 q751
              cases e751
              replace p751 := eq_true p751
              replace q751 := eq_true q751
              go_wp2
              go_ret
              exact ⟨by first | rfl | (simp; done) | (simp [*]; done), by repeat (first | exact Drawn0.refl _ | apply Drawn0.step)⟩
            · rw [if_neg c7] at H
              have c7b0 : decide ((rd l2 x11_1) < a0) = false := decide_eq_false c7
              clear c7
              by_cases c8 : (rd l2 x11_1) > a1
              · rw [if_pos c8] at H
                have c8b0 : decide (a1 < (rd l2 x11_1)) = true := decide_eq_true c8
                clear c8
                obtain rfl := Option.some.inj H
                have p751 : 0 ≤ (x11_1 : Int) := of_decide_eq_true (by first | (with_reducible assumption) | assumption)
                have q751 : x11_1 < (l2.length : Int) := of_decide_eq_true (by first | (with_reducible assumption) | assumption)
                obtain ⟨ad751, e751, hx751_0⟩ := Kd.at_int HR2.out x11_1 p751 q751
                cases e751
                replace p751 := eq_true p751
                replace q751 := eq_true q751
                go_wp2
                go_ret
                exact ⟨by first | rfl | (simp; done) | (simp [*]; done), by repeat (first | exact Drawn0.refl _ | apply Drawn0.step)⟩
              · rw [if_neg c8] at H
                have c8b0 : decide (a1 < (rd l2 x11_1)) = false := decide_eq_false c8
                clear c8
                have H' := Aside0.mk H
                clear H
                have p751 : 0 ≤ (x11_1 : Int) := of_decide_eq_true (by first | (with_reducible assumption) | assumption)
                have q751 : x11_1 < (l2.length : Int) := of_decide_eq_true (by first | (with_reducible assumption) | assumption)
                obtain ⟨ad751, e751, hx751_0⟩ := Kd.at_int HR2.out x11_1 p751 q751
                cases e751
                replace p751 := eq_true p751
                replace q751 := eq_true q751
                go_wp2
                go_roundg k1
                case measure => have := HK1.out; omega
                case rel => exact ⟨(wrap64 (x11_1 + 1)), (by first | rfl | (simp; done) | (simp [*]; done)), H', ⟨by have := HK1.out; omega⟩, by repeat (first | exact Drawn0.refl _ | apply Drawn0.step)⟩
          · rw [if_neg c6] at H
            exact absurd H (by simp)
        · rw [if_neg c5] at H
          exact absurd H (by simp)
      · rw [if_neg c4] at H
        have c4b0 : decide (x11_1 < (l2.length : Int)) = false := decide_eq_false c4
        clear c4
        obtain rfl := Option.some.inj H
        go_wp2
        go_ret
        exact ⟨by first | rfl | (simp; done) | (simp [*]; done), by repeat (first | exact Drawn0.refl _ | apply Drawn0.step)⟩

end Go.Proofs.Ytihfopblmjgfaaa.Q

/- Printed walk, shortened (wip/tools/unmerge.py). -/
namespace Go.Proofs.Ytihfopblmjgfaaa.Q
open Go.RowKit Go.Proofs.YtihfopblmjgfaaaW.PrintWords Go.Proofs.YtihfopblmjgfaaaW.PrintLast Go.Proofs.YtihfopblmjgfaaaW.PrintMore
attribute [local go_sem] max2_int min2_int max_two min_two max_three min_three max_four min_four   -- for this text's walks alone
set_option linter.unusedVariables false
set_option linter.unusedSimpArgs false

/-! ### rect_CeilDiv: function 71 -/
def rect_CeilDiv.f (a0 : Int) (a1 : Int) : Option (Int) := if a1 < 1 then (some 0) else (if a1 = 0 then (none) else (if (Int.tmod a0 a1) > 0 then (some (wrap64 ((wrap64 (Int.tdiv a0 a1)) + 1))) else (some (wrap64 (Int.tdiv a0 a1)))))
set_option maxHeartbeats 8000000 in
set_option maxRecDepth 100000 in
theorem rect_CeilDiv.calls (a0 : Int) (a1 : Int) (r : Int) (w : World) (h : rect_CeilDiv.f a0 a1 = some r) :
    Calls Try.prog 71 #[.int .i64 a0, .int .i64 a1] w fun e w' => e = .returned (.int .i64 r) ∧ Drawn0 w w' := by
  have H : (if a1 < 1 then (some 0) else (if a1 = 0 then (none) else (if (Int.tmod a0 a1) > 0 then (some (wrap64 ((wrap64 (Int.tdiv a0 a1)) + 1))) else (some (wrap64 (Int.tdiv a0 a1)))))) = some r := h
  clear h
  by_cases c3 : a1 < 1
  · rw [if_pos c3] at H
    have c3b0 : decide (a1 < 1) = true := decide_eq_true c3
    clear c3
    obtain rfl := Option.some.inj H
    go_enter Try.func71, Try.ntmps71
    go_wp2
    go_ret
    exact ⟨by first | rfl | (simp; done) | (simp [*]; done), by repeat (first | exact Drawn0.refl _ | apply Drawn0.step)⟩
  · rw [if_neg c3] at H
    have c3b0 : decide (a1 < 1) = false := decide_eq_false c3
    clear c3
    by_cases c4 : a1 = 0
    · rw [if_pos c4] at H
      exact absurd H (by simp)
    · rw [if_neg c4] at H
      have c4b0 : (a1 == 0) = false := beq_eq_false_iff_ne.mpr c4
      have c4b1 : (a1 != 0) = true := bne_iff_ne.mpr c4
      by_cases c5 : (Int.tmod a0 a1) > 0
      · rw [if_pos c5] at H
        have c5b0 : decide (0 < (Int.tmod a0 a1)) = true := decide_eq_true c5
        clear c5
        obtain rfl := Option.some.inj H
        go_enter Try.func71, Try.ntmps71
        go_wp2
        go_ret
        exact ⟨by first | rfl | (simp; done) | (simp [*]; done), by repeat (first | exact Drawn0.refl _ | apply Drawn0.step)⟩
      · rw [if_neg c5] at H
        have c5b0 : decide (0 < (Int.tmod a0 a1)) = false := decide_eq_false c5
        clear c5
        obtain rfl := Option.some.inj H
        go_enter Try.func71, Try.ntmps71
        go_wp2
        go_ret
        exact ⟨by first | rfl | (simp; done) | (simp [*]; done), by repeat (first | exact Drawn0.refl _ | apply Drawn0.step)⟩

end Go.Proofs.Ytihfopblmjgfaaa.Q
