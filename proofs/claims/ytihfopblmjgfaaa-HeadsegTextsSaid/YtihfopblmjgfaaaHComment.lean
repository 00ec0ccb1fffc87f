/- Comment: the segment of a comment, its payload a marked row ('[]byte(s)'). Printed by wip/tools/genComment.py of this session. -/
import Derived.Test.YtihfopblmjgfaaaQ0
import Derived.Test.YtihfopblmjgfaaaHMark
import Derived.Laws.NewBlocks
namespace Go.Proofs.Ytihfopblmjgfaaa.Q
open Go.RowKit Go.Proofs.YtihfopblmjgfaaaW.PrintWords Go.Proofs.YtihfopblmjgfaaaW.PrintLast Go.Proofs.YtihfopblmjgfaaaW.PrintMore
set_option linter.unusedVariables false
set_option linter.unusedSimpArgs false
def strBytes (s : ByteArray) : List Int := s.data.toList.map fun b => (b.toNat : Int)

def headseg_Comment.f (a0 : ByteArray) : Option (Int × List Int × Int) := if a0.size ≤ 9223372036854775807 then some (if (a0.size : Int) > 65533 then (0, [], 5) else (65444, strBytes a0, 0)) else none
set_option maxHeartbeats 8000000 in
set_option maxRecDepth 100000 in
theorem headseg_Comment.calls (a0 : ByteArray) (r1 : Int) (r2 : List Int) (r3 : Int) (w : World) (h : headseg_Comment.f a0 = some (r1, r2, r3)) :
    Calls Try.prog 13 #[.string a0] w fun e w' => ∃ v1_ : Value, e = .returned (.tuple #[.agg #[.int .i64 r1, v1_], .int .i64 r3]) ∧ MR w' w.heap.size (fun _ => True) v1_ r2 ∧ Below w.heap.size w w' := by
  have h0 : a0.size ≤ 9223372036854775807 := by
    unfold headseg_Comment.f at h
    split at h
    · assumption
    · cases h
  simp only [headseg_Comment.f, if_pos h0, Option.some.injEq] at h
  have H := Aside0.mk h
  have H0 := Aside0.mk h0
  clear h h0
  generalize hW : w.alloc (.cells #[.int .i64 0, .slice none 0 0] 26) = W
  have hWs : W.heap.size = w.heap.size + 1 := by rw [← hW]; simp
  have hcv := Lib.run_convert_string_bytes (P := Try.prog) W 9 24 5 a0 Try.underlying9 Try.underlying24 Try.underlying5
  have hM := Aside0.mk (MR_bytes W a0 H0.out)
  have hbl : (Lib.bytesWorld W 5 a0).heap[w.heap.size]? = some (.cells #[.int .i64 0, .slice none 0 0] 26 (0, 0)) := by
    rw [Lib.bytesWorld_at_old W 5 a0 _ (by omega), ← hW]
    exact blk_new w _
  have hBw := Aside0.mk (below_bytes W 5 a0)
  generalize grownCap W a0.size 0 5 = cp at hcv hM
  generalize hV : Lib.bytesWorld W 5 a0 = V at hcv hM hbl hBw
  have hc0 : V.cell? ⟨w.heap.size, 0, none⟩ = some (.int .i64 0) := (blk_cell hbl 0).trans rfl
  have hc1 : V.cell? ⟨w.heap.size, 1, none⟩ = some (.slice none 0 0) := (blk_cell hbl 1).trans rfl
  have hz0 := blk_frozen hbl 0
  have hz1 := blk_frozen hbl 1
  have hbW : W.heap[w.heap.size]? = some (.cells #[.int .i64 0, .slice none 0 0] 26 (0, 0)) := by rw [← hW]; exact blk_new w _
  have hd0 : W.cell? ⟨w.heap.size, 0, none⟩ = some (.int .i64 0) := (blk_cell hbW 0).trans rfl
  have hd1 : W.cell? ⟨w.heap.size, 1, none⟩ = some (.slice none 0 0) := (blk_cell hbW 1).trans rfl
  have hy0 := blk_frozen hbW 0
  have hy1 := blk_frozen hbW 1
  go_enter Try.func13, Try.ntmps13
  by_cases hs : (a0.size : Int) > 65533
  · have hs' : decide (65533 < (a0.size : Int)) = true := decide_eq_true hs
    go_wp2
    have h := H.out
    rw [if_pos hs] at h
    simp only [Prod.mk.injEq] at h
    obtain ⟨rfl, rfl, rfl⟩ := h
    have hb2 : ((W.setCell ⟨w.heap.size, 0, none⟩ (.int .i64 0)).setCell ⟨w.heap.size, 1, none⟩ (.slice none 0 0)).heap[w.heap.size]? = some (.cells #[.int .i64 0, .slice none 0 0] 26 (0, 0)) := blk_put (blk_put hbW 0 (.int .i64 0) rfl) 1 (.slice none 0 0) rfl
    have q0 : ((W.setCell ⟨w.heap.size, 0, none⟩ (.int .i64 0)).setCell ⟨w.heap.size, 1, none⟩ (.slice none 0 0)).cell? ⟨w.heap.size, 0, none⟩ = some (.int .i64 0) := (blk_cell hb2 0).trans rfl
    have q1 : ((W.setCell ⟨w.heap.size, 0, none⟩ (.int .i64 0)).setCell ⟨w.heap.size, 1, none⟩ (.slice none 0 0)).cell? ⟨w.heap.size, 1, none⟩ = some (.slice none 0 0) := (blk_cell hb2 1).trans rfl
    have hBl : Below w.heap.size w ((W.setCell ⟨w.heap.size, 0, none⟩ (.int .i64 0)).setCell ⟨w.heap.size, 1, none⟩ (.slice none 0 0)) := by rw [← hW]; exact ((below_alloc (Below.refl _ _) _).setCell (p := ⟨w.heap.size, 0, none⟩) (Nat.le_refl _) _).setCell (p := ⟨w.heap.size, 1, none⟩) (Nat.le_refl _) _
    exact bodyPost_ret (v := .tuple #[.agg #[.int .i64 0, .slice none 0 0], .int .i64 5]) (by simp [results, Try.results13, go_sem, q0, q1]) rfl ⟨_, rfl, ⟨fun k hk => trivial, .inl ⟨rfl, rfl⟩⟩, hBl⟩
  · have hs' : decide (65533 < (a0.size : Int)) = false := decide_eq_false hs
    go_wp2
    have h := H.out
    rw [if_neg (by omega)] at h
    simp only [Prod.mk.injEq] at h
    obtain ⟨rfl, rfl, rfl⟩ := h
    have hb2 : ((V.setCell ⟨w.heap.size, 0, none⟩ (.int .i64 65444)).setCell ⟨w.heap.size, 1, none⟩ (.slice (some ⟨w.heap.size + 1, 0, none⟩) a0.size cp)).heap[w.heap.size]? = some (.cells #[.int .i64 65444, .slice (some ⟨w.heap.size + 1, 0, none⟩) a0.size cp] 26 (0, 0)) := blk_put (blk_put hbl 0 (.int .i64 65444) rfl) 1 (.slice (some ⟨w.heap.size + 1, 0, none⟩) a0.size cp) rfl
    have q0 : ((V.setCell ⟨w.heap.size, 0, none⟩ (.int .i64 65444)).setCell ⟨w.heap.size, 1, none⟩ (.slice (some ⟨w.heap.size + 1, 0, none⟩) a0.size cp)).cell? ⟨w.heap.size, 0, none⟩ = some (.int .i64 65444) := (blk_cell hb2 0).trans rfl
    have q1 : ((V.setCell ⟨w.heap.size, 0, none⟩ (.int .i64 65444)).setCell ⟨w.heap.size, 1, none⟩ (.slice (some ⟨w.heap.size + 1, 0, none⟩) a0.size cp)).cell? ⟨w.heap.size, 1, none⟩ = some (.slice (some ⟨w.heap.size + 1, 0, none⟩) a0.size cp) := (blk_cell hb2 1).trans rfl
    have hBV : Below w.heap.size w V := (show Below w.heap.size w W by rw [← hW]; exact below_alloc (Below.refl _ _) _).trans (hBw.out.mono (by omega))
    have hBl : Below w.heap.size w ((V.setCell ⟨w.heap.size, 0, none⟩ (.int .i64 65444)).setCell ⟨w.heap.size, 1, none⟩ (.slice (some ⟨w.heap.size + 1, 0, none⟩) a0.size cp)) := (hBV.setCell (p := ⟨w.heap.size, 0, none⟩) (Nat.le_refl _) _).setCell (p := ⟨w.heap.size, 1, none⟩) (Nat.le_refl _) _
    have hm := MR_far (p := ⟨w.heap.size, 1, none⟩) (MR_far (p := ⟨w.heap.size, 0, none⟩) (MR_types hM.out hbl (by decide)) (fun _ hk => hk.2) (.int .i64 65444)) (fun _ hk => hk.2) (.slice (some ⟨w.heap.size + 1, 0, none⟩) a0.size cp)
    rw [hWs] at hm
    exact bodyPost_ret (v := .tuple #[.agg #[.int .i64 65444, .slice (some ⟨w.heap.size + 1, 0, none⟩) a0.size cp], .int .i64 0]) (by simp [results, Try.results13, go_sem, q0, q1]) rfl ⟨_, rfl, MR_lower (MR_mono hm (fun _ _ => trivial)) (by omega), hBl⟩

def waveletref29_Comment.f (a0 : ByteArray) : Option (Int × List Int × Int) := if a0.size ≤ 9223372036854775807 then some (if (a0.size : Int) > 65533 then (0, [], 5) else (65444, strBytes a0, 0)) else none
set_option maxHeartbeats 8000000 in
set_option maxRecDepth 100000 in
theorem waveletref29_Comment.calls (a0 : ByteArray) (r1 : Int) (r2 : List Int) (r3 : Int) (w : World) (h : waveletref29_Comment.f a0 = some (r1, r2, r3)) :
    Calls Try.prog 14 #[.string a0] w fun e w' => ∃ v1_ : Value, e = .returned (.tuple #[.agg #[.int .i64 r1, v1_], .int .i64 r3]) ∧ MR w' w.heap.size (fun _ => True) v1_ r2 ∧ Below w.heap.size w w' := by
  have h0 : a0.size ≤ 9223372036854775807 := by
    unfold waveletref29_Comment.f at h
    split at h
    · assumption
    · cases h
  simp only [waveletref29_Comment.f, if_pos h0, Option.some.injEq] at h
  have H := Aside0.mk h
  have H0 := Aside0.mk h0
  clear h h0
  generalize hW : w.alloc (.cells #[.int .i64 0, .slice none 0 0] 26) = W
  have hWs : W.heap.size = w.heap.size + 1 := by rw [← hW]; simp
  have hcv := Lib.run_convert_string_bytes (P := Try.prog) W 9 24 5 a0 Try.underlying9 Try.underlying24 Try.underlying5
  have hM := Aside0.mk (MR_bytes W a0 H0.out)
  have hbl : (Lib.bytesWorld W 5 a0).heap[w.heap.size]? = some (.cells #[.int .i64 0, .slice none 0 0] 26 (0, 0)) := by
    rw [Lib.bytesWorld_at_old W 5 a0 _ (by omega), ← hW]
    exact blk_new w _
  have hBw := Aside0.mk (below_bytes W 5 a0)
  generalize grownCap W a0.size 0 5 = cp at hcv hM
  generalize hV : Lib.bytesWorld W 5 a0 = V at hcv hM hbl hBw
  have hc0 : V.cell? ⟨w.heap.size, 0, none⟩ = some (.int .i64 0) := (blk_cell hbl 0).trans rfl
  have hc1 : V.cell? ⟨w.heap.size, 1, none⟩ = some (.slice none 0 0) := (blk_cell hbl 1).trans rfl
  have hz0 := blk_frozen hbl 0
  have hz1 := blk_frozen hbl 1
  have hbW : W.heap[w.heap.size]? = some (.cells #[.int .i64 0, .slice none 0 0] 26 (0, 0)) := by rw [← hW]; exact blk_new w _
  have hd0 : W.cell? ⟨w.heap.size, 0, none⟩ = some (.int .i64 0) := (blk_cell hbW 0).trans rfl
  have hd1 : W.cell? ⟨w.heap.size, 1, none⟩ = some (.slice none 0 0) := (blk_cell hbW 1).trans rfl
  have hy0 := blk_frozen hbW 0
  have hy1 := blk_frozen hbW 1
  go_enter Try.func14, Try.ntmps14
  by_cases hs : (a0.size : Int) > 65533
  · have hs' : decide (65533 < (a0.size : Int)) = true := decide_eq_true hs
    go_wp2
    have h := H.out
    rw [if_pos hs] at h
    simp only [Prod.mk.injEq] at h
    obtain ⟨rfl, rfl, rfl⟩ := h
    have hb2 : ((W.setCell ⟨w.heap.size, 0, none⟩ (.int .i64 0)).setCell ⟨w.heap.size, 1, none⟩ (.slice none 0 0)).heap[w.heap.size]? = some (.cells #[.int .i64 0, .slice none 0 0] 26 (0, 0)) := blk_put (blk_put hbW 0 (.int .i64 0) rfl) 1 (.slice none 0 0) rfl
    have q0 : ((W.setCell ⟨w.heap.size, 0, none⟩ (.int .i64 0)).setCell ⟨w.heap.size, 1, none⟩ (.slice none 0 0)).cell? ⟨w.heap.size, 0, none⟩ = some (.int .i64 0) := (blk_cell hb2 0).trans rfl
    have q1 : ((W.setCell ⟨w.heap.size, 0, none⟩ (.int .i64 0)).setCell ⟨w.heap.size, 1, none⟩ (.slice none 0 0)).cell? ⟨w.heap.size, 1, none⟩ = some (.slice none 0 0) := (blk_cell hb2 1).trans rfl
    have hBl : Below w.heap.size w ((W.setCell ⟨w.heap.size, 0, none⟩ (.int .i64 0)).setCell ⟨w.heap.size, 1, none⟩ (.slice none 0 0)) := by rw [← hW]; exact ((below_alloc (Below.refl _ _) _).setCell (p := ⟨w.heap.size, 0, none⟩) (Nat.le_refl _) _).setCell (p := ⟨w.heap.size, 1, none⟩) (Nat.le_refl _) _
    exact bodyPost_ret (v := .tuple #[.agg #[.int .i64 0, .slice none 0 0], .int .i64 5]) (by simp [results, Try.results14, go_sem, q0, q1]) rfl ⟨_, rfl, ⟨fun k hk => trivial, .inl ⟨rfl, rfl⟩⟩, hBl⟩
  · have hs' : decide (65533 < (a0.size : Int)) = false := decide_eq_false hs
    go_wp2
    have h := H.out
    rw [if_neg (by omega)] at h
    simp only [Prod.mk.injEq] at h
    obtain ⟨rfl, rfl, rfl⟩ := h
    have hb2 : ((V.setCell ⟨w.heap.size, 0, none⟩ (.int .i64 65444)).setCell ⟨w.heap.size, 1, none⟩ (.slice (some ⟨w.heap.size + 1, 0, none⟩) a0.size cp)).heap[w.heap.size]? = some (.cells #[.int .i64 65444, .slice (some ⟨w.heap.size + 1, 0, none⟩) a0.size cp] 26 (0, 0)) := blk_put (blk_put hbl 0 (.int .i64 65444) rfl) 1 (.slice (some ⟨w.heap.size + 1, 0, none⟩) a0.size cp) rfl
    have q0 : ((V.setCell ⟨w.heap.size, 0, none⟩ (.int .i64 65444)).setCell ⟨w.heap.size, 1, none⟩ (.slice (some ⟨w.heap.size + 1, 0, none⟩) a0.size cp)).cell? ⟨w.heap.size, 0, none⟩ = some (.int .i64 65444) := (blk_cell hb2 0).trans rfl
    have q1 : ((V.setCell ⟨w.heap.size, 0, none⟩ (.int .i64 65444)).setCell ⟨w.heap.size, 1, none⟩ (.slice (some ⟨w.heap.size + 1, 0, none⟩) a0.size cp)).cell? ⟨w.heap.size, 1, none⟩ = some (.slice (some ⟨w.heap.size + 1, 0, none⟩) a0.size cp) := (blk_cell hb2 1).trans rfl
    have hBV : Below w.heap.size w V := (show Below w.heap.size w W by rw [← hW]; exact below_alloc (Below.refl _ _) _).trans (hBw.out.mono (by omega))
    have hBl : Below w.heap.size w ((V.setCell ⟨w.heap.size, 0, none⟩ (.int .i64 65444)).setCell ⟨w.heap.size, 1, none⟩ (.slice (some ⟨w.heap.size + 1, 0, none⟩) a0.size cp)) := (hBV.setCell (p := ⟨w.heap.size, 0, none⟩) (Nat.le_refl _) _).setCell (p := ⟨w.heap.size, 1, none⟩) (Nat.le_refl _) _
    have hm := MR_far (p := ⟨w.heap.size, 1, none⟩) (MR_far (p := ⟨w.heap.size, 0, none⟩) (MR_types hM.out hbl (by decide)) (fun _ hk => hk.2) (.int .i64 65444)) (fun _ hk => hk.2) (.slice (some ⟨w.heap.size + 1, 0, none⟩) a0.size cp)
    rw [hWs] at hm
    exact bodyPost_ret (v := .tuple #[.agg #[.int .i64 65444, .slice (some ⟨w.heap.size + 1, 0, none⟩) a0.size cp], .int .i64 0]) (by simp [results, Try.results14, go_sem, q0, q1]) rfl ⟨_, rfl, MR_lower (MR_mono hm (fun _ _ => trivial)) (by omega), hBl⟩
end Go.Proofs.Ytihfopblmjgfaaa.Q
