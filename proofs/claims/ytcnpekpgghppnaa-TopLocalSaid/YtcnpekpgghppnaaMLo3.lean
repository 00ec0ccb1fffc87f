/- Texts of this session (words and printed walks, merged by wip/tools/merge.py) for the statement of the claim. -/
import Derived.Test.YtcnpekpgghppnaaMLo1
import Derived.Test.YtcnpekpgghppnaaMLo2
namespace Go.Proofs.Ytcnpekpgghppnaa.Q
open Go.RowKit Go.Proofs.YtcnpekpgghppnaaW.PrintWords Go.Proofs.YtcnpekpgghppnaaW.PrintLast Go.Proofs.YtcnpekpgghppnaaW.PrintMore
set_option linter.unusedVariables false
set_option linter.unusedSimpArgs false
section
variable {P : Program} {ops : Array Oper} {rest : List Oper} {o : Oper} {a : Act} {Q : Exit → Act → World → Prop} {W : World} {g t i : Nat} {cs old : Array Value} {ty : TypeId} {d : TypeDesc} {K : Act → World → Prop}
theorem range_mid (hb : W.heap[g]? = some (.cells old t (0, 0))) (hr : ∀ (j : Nat) (v : Value), cs[j]? = some v → old[i + j]? = some v) : W.rangeAt g i cs.toList := fun j v hv => by
 rw [blk_cell hb (i + j)]
 exact hr j v (by simpa using hv)
theorem there_mid (hb : W.heap[g]? = some (.cells old t (0, 0))) {n : Nat} (hn : i + n ≤ old.size) : W.there g i n := fun j hj => by
 rw [blk_cell hb (i + j)]
 refine ⟨?_, blk_frozen hb (i + j)⟩
 rw [Array.getElem?_eq_getElem (by omega)]
 rfl
theorem run_load_mid (hb : W.heap[g]? = some (.cells old t (0, 0))) (hr : ∀ (j : Nat) (v : Value), cs[j]? = some v → old[i + j]? = some v) (hu : P.underlying ty = some d) (hd : d.isRow = true) (hi : (P.info? ty).map (·.size) = some cs.size) : (Instr.loadAt ty (.pointer (some ⟨g, i, none⟩))).run P W = .ok (.agg cs) W := by
 have := run_loadAt_mid (P := P) W g i ty cs.toList d (range_mid hb hr) hu hd (by simpa using hi)
 simpa using this
theorem run_store_mid (hb : W.heap[g]? = some (.cells old t (0, 0))) (hs : i + cs.size ≤ old.size) (hi : (P.info? ty).map (·.size) = some cs.size) (h1 : cs.all (·.oneCell') = true) : (Instr.storeAt ty (.pointer (some ⟨g, i, none⟩)) (.agg cs)).run P W = .ok () (setL W g i cs.toList) := by
 rw [← setCells_setL]
 exact run_storeAt_mid W g i ty cs (there_mid hb hs) hi h1
/-- What a store of a struct amid a block leaves: the block is new then. -/
theorem stored_mid (hb : W.heap[g]? = some (.cells old t (0, 0))) {new : Array Value} (hn : setA old i cs.toList = new) : Stored W g t new (setL W g i cs.toList) :=
 ⟨by rw [← hn]; exact setL_blk cs.toList W i old hb, fun g' o hg h => setL_far hg cs.toList W i h, fun B w hB h => setL_below hB cs.toList W i h, fun hok h => setL_R hok cs.toList W i h⟩
theorem load_mid_ev (hgd : o.guard = none) (ty : TypeId) (x : Operand) (ho : o.op = .load ty x) (hx : a.eval x = .pointer (some ⟨g, i, none⟩)) (hb : W.heap[g]? = some (.cells old t (0, 0))) (hr : ∀ (j : Nat) (v : Value), cs[j]? = some v → old[i + j]? = some v) (hu : P.underlying ty = some d) (hd : d.isRow = true) (hi : (P.info? ty).map (·.size) = some cs.size)
  (h : wpList P ops Q rest (a.put o.dst (.agg cs)) W) : wpList P ops Q (o :: rest) a W :=
 wpList_plain hgd fun K hK => by
  unfold Oper.wp execOp
  simp only [ho, hx, Sem.run_bind, run_load_mid hb hr hu hd hi, Result.andThen_ok, Sem.run_pure]
  exact hK _ _ h
theorem store_mid_ev (hgd : o.guard = none) (hN : o.dst = none) (ty : TypeId) (x y : Operand) (ho : o.op = .store ty x y) (hx : a.eval x = .pointer (some ⟨g, i, none⟩)) (hy : a.eval y = .agg cs) (hb : W.heap[g]? = some (.cells old t (0, 0))) (hs : i + cs.size ≤ old.size) (hi : (P.info? ty).map (·.size) = some cs.size) (h1 : cs.all (·.oneCell') = true) {new : Array Value} (hn : setA old i cs.toList = new)
  (h : ∀ W', Stored W g t new W' → wpList P ops Q rest a W') : wpList P ops Q (o :: rest) a W :=
 wpList_plain hgd fun K hK => by
  unfold Oper.wp execOp
  simp only [ho, hx, hy, Sem.run_bind, run_store_mid hb hs hi h1, Result.andThen_ok, Sem.run_pure]
  show K (a.put o.dst undef) _
  rw [hN]
  exact hK _ _ (h _ (stored_mid hb hn))
theorem load_mid_yields {S : World → Prop} (hw : Region.wanted o (yielded ops a.tmps) = true) (ty : TypeId) (x : Operand) (ho : o.op = .load ty x) (hx : a.eval x = .pointer (some ⟨g, i, none⟩)) (hS : ∀ w, S w → w.heap[g]? = some (.cells old t (0, 0))) (hr : ∀ (j : Nat) (v : Value), cs[j]? = some v → old[i + j]? = some v) (hu : P.underlying ty = some d) (hd : d.isRow = true) (hi : (P.info? ty).map (·.size) = some cs.size) : YieldsIf P ops S o (.agg cs) a :=
 .inl ⟨hw, fun w hw' => by
  unfold execOp
  simp only [ho, hx, Sem.run_bind, run_load_mid (hS w hw') hr hu hd hi, Result.andThen_ok, Sem.run_pure]⟩
/-- A whole block that is an array or a struct. -/
theorem load_all_ev (hgd : o.guard = none) (ty : TypeId) (x : Operand) (ho : o.op = .load ty x) (hx : a.eval x = .pointer (some ⟨g, 0, none⟩)) (hb : W.heap[g]? = some (.cells cs t (0, 0))) (hu : P.underlying ty = some d) (hd : d.isRow = true) (hi : (P.info? ty).map (·.size) = some cs.size)
  (h : wpList P ops Q rest (a.put o.dst (.agg cs)) W) : wpList P ops Q (o :: rest) a W :=
 load_mid_ev hgd ty x ho hx hb (fun j v hv => by rw [Nat.zero_add]; exact hv) hu hd hi h
theorem load_all_yields {S : World → Prop} (hw : Region.wanted o (yielded ops a.tmps) = true) (ty : TypeId) (x : Operand) (ho : o.op = .load ty x) (hx : a.eval x = .pointer (some ⟨g, 0, none⟩)) (hS : ∀ w, S w → w.heap[g]? = some (.cells cs t (0, 0))) (hu : P.underlying ty = some d) (hd : d.isRow = true) (hi : (P.info? ty).map (·.size) = some cs.size) : YieldsIf P ops S o (.agg cs) a :=
 load_mid_yields hw ty x ho hx hS (fun j v hv => by rw [Nat.zero_add]; exact hv) hu hd hi
theorem store_mid_step (hw : Region.wanted o (yielded ops a.tmps) = true) (hN : o.dst = none) (ty : TypeId) (x y : Operand) (ho : o.op = .store ty x y) (hx : a.eval x = .pointer (some ⟨g, i, none⟩)) (hy : a.eval y = .agg cs) (hb : W.heap[g]? = some (.cells old t (0, 0))) (hs : i + cs.size ≤ old.size) (hi : (P.info? ty).map (·.size) = some cs.size) (h1 : cs.all (·.oneCell') = true) {new : Array Value} (hn : setA old i cs.toList = new)
  (h : ∀ W', Stored W g t new W' → K a W') : if Region.wanted o (yielded ops a.tmps) = true then Oper.wp P o a W K Q else K (a.put none undef) W := by
 refine skip_ (w1 := setL W g i cs.toList) hw hN ?_ (h _ (stored_mid hb hn))
 unfold execOp
 simp only [ho, hx, hy, Sem.run_bind, run_store_mid hb hs hi h1, Result.andThen_ok, Sem.run_pure]
end
/-- The rectangles of the four subbands, so far n. -/
def bandsC (x0 y0 x1 y1 : Int) : Nat → Array Value
 | 0 => #[.int .i64 0, .int .i64 0, .int .i64 0, .int .i64 0, .int .i64 0, .int .i64 0, .int .i64 0, .int .i64 0, .int .i64 0, .int .i64 0, .int .i64 0, .int .i64 0, .int .i64 0, .int .i64 0, .int .i64 0, .int .i64 0]
 | 1 => #[.int .i64 (wrap64 (Int.tdiv (wrap64 (x0 + 1)) 2)), .int .i64 (wrap64 (Int.tdiv (wrap64 (y0 + 1)) 2)), .int .i64 (wrap64 (Int.tdiv (wrap64 (x1 + 1)) 2)), .int .i64 (wrap64 (Int.tdiv (wrap64 (y1 + 1)) 2)), .int .i64 0, .int .i64 0, .int .i64 0, .int .i64 0, .int .i64 0, .int .i64 0, .int .i64 0, .int .i64 0, .int .i64 0, .int .i64 0, .int .i64 0, .int .i64 0]
 | 2 => #[.int .i64 (wrap64 (Int.tdiv (wrap64 (x0 + 1)) 2)), .int .i64 (wrap64 (Int.tdiv (wrap64 (y0 + 1)) 2)), .int .i64 (wrap64 (Int.tdiv (wrap64 (x1 + 1)) 2)), .int .i64 (wrap64 (Int.tdiv (wrap64 (y1 + 1)) 2)), .int .i64 (wrap64 (Int.tdiv (wrap64 (x0 + 0)) 2)), .int .i64 (wrap64 (Int.tdiv (wrap64 (y0 + 1)) 2)), .int .i64 (wrap64 (Int.tdiv (wrap64 (x1 + 0)) 2)), .int .i64 (wrap64 (Int.tdiv (wrap64 (y1 + 1)) 2)), .int .i64 0, .int .i64 0, .int .i64 0, .int .i64 0, .int .i64 0, .int .i64 0, .int .i64 0, .int .i64 0]
 | 3 => #[.int .i64 (wrap64 (Int.tdiv (wrap64 (x0 + 1)) 2)), .int .i64 (wrap64 (Int.tdiv (wrap64 (y0 + 1)) 2)), .int .i64 (wrap64 (Int.tdiv (wrap64 (x1 + 1)) 2)), .int .i64 (wrap64 (Int.tdiv (wrap64 (y1 + 1)) 2)), .int .i64 (wrap64 (Int.tdiv (wrap64 (x0 + 0)) 2)), .int .i64 (wrap64 (Int.tdiv (wrap64 (y0 + 1)) 2)), .int .i64 (wrap64 (Int.tdiv (wrap64 (x1 + 0)) 2)), .int .i64 (wrap64 (Int.tdiv (wrap64 (y1 + 1)) 2)), .int .i64 (wrap64 (Int.tdiv (wrap64 (x0 + 1)) 2)), .int .i64 (wrap64 (Int.tdiv (wrap64 y0) 2)), .int .i64 (wrap64 (Int.tdiv (wrap64 (x1 + 1)) 2)), .int .i64 (wrap64 (Int.tdiv (wrap64 y1) 2)), .int .i64 0, .int .i64 0, .int .i64 0, .int .i64 0]
 | _ => #[.int .i64 (wrap64 (Int.tdiv (wrap64 (x0 + 1)) 2)), .int .i64 (wrap64 (Int.tdiv (wrap64 (y0 + 1)) 2)), .int .i64 (wrap64 (Int.tdiv (wrap64 (x1 + 1)) 2)), .int .i64 (wrap64 (Int.tdiv (wrap64 (y1 + 1)) 2)), .int .i64 (wrap64 (Int.tdiv (wrap64 (x0 + 0)) 2)), .int .i64 (wrap64 (Int.tdiv (wrap64 (y0 + 1)) 2)), .int .i64 (wrap64 (Int.tdiv (wrap64 (x1 + 0)) 2)), .int .i64 (wrap64 (Int.tdiv (wrap64 (y1 + 1)) 2)), .int .i64 (wrap64 (Int.tdiv (wrap64 (x0 + 1)) 2)), .int .i64 (wrap64 (Int.tdiv (wrap64 y0) 2)), .int .i64 (wrap64 (Int.tdiv (wrap64 (x1 + 1)) 2)), .int .i64 (wrap64 (Int.tdiv (wrap64 y1) 2)), .int .i64 (wrap64 (Int.tdiv (wrap64 (x0 + 0)) 2)), .int .i64 (wrap64 (Int.tdiv (wrap64 y0) 2)), .int .i64 (wrap64 (Int.tdiv (wrap64 (x1 + 0)) 2)), .int .i64 (wrap64 (Int.tdiv (wrap64 y1) 2))]
set_option maxHeartbeats 8000000 in
set_option maxRecDepth 100000 in
theorem dwt_Bands.good (x0 y0 x1 y1 : Int) (w : World) (hv : rect_Valid.f x0 y0 x1 y1 = some true) : Calls Try.prog 35 #[.agg #[.int .i64 x0, .int .i64 y0, .int .i64 x1, .int .i64 y1]] w fun e w' => e = .returned (.agg (bandsC x0 y0 x1 y1 4)) ∧ Below w.heap.size w w' := by
 have HV := Aside0.mk hv
 clear hv
 have K00 := Aside0.mk (Bks.nil w)
 go_enter Try.func35, Try.ntmps35
 go_wp2_with (first
  | ((with_reducible refine gate_dst (N := 1) rfl ?_); refine bT (N := 1) (#[.int .i64 x0, .int .i64 y0, .int .i64 x1, .int .i64 y1]) 23 ?_; intro g1 hg W1 hbox hb; have K0 := Aside0.mk (K00.out.box (Nat.le_refl _) hg hbox hb); clear hg hbox hb K00)
  | ((with_reducible refine gate_dst (N := 2) rfl ?_); refine bT (N := 2) (#[.int .i64 0, .int .i64 0, .int .i64 0, .int .i64 0, .int .i64 0, .int .i64 0, .int .i64 0, .int .i64 0, .int .i64 0, .int .i64 0, .int .i64 0, .int .i64 0, .int .i64 0, .int .i64 0, .int .i64 0, .int .i64 0]) 62 ?_; intro g2 hg W2 hbox hb; have K1 := Aside0.mk (K0.out.box (below_size K0.out.below) hg hbox hb); clear hg hbox hb K0)
  | ((with_reducible refine gate_dst (N := 3) rfl ?_); refine bT (N := 3) (#[.int .i64 0, .int .i64 0, .int .i64 0, .int .i64 0, .int .i64 0, .int .i64 0, .int .i64 0, .int .i64 0, .int .i64 0, .int .i64 0, .int .i64 0, .int .i64 0, .int .i64 0, .int .i64 0, .int .i64 0, .int .i64 0]) 62 ?_; intro g3 hg W3 hbox hb; have K := Aside0.mk (K1.out.box (below_size K1.out.below) hg hbox hb); clear hg hbox hb K1)
  | ((with_reducible refine gate_dst (N := 7) rfl ?_); refine load_ev rfl 23 (.tmp 1) rfl rfl (K.out.get 2 rfl) Try.underlying23 rfl ?_)
  | (go_at_call 31; (with_reducible refine (rect_Valid.calls x0 y0 x1 y1 true _ HV.out).mono ?_); rintro _ w4 ⟨rfl, b⟩; replace K := Aside0.mk (K.out.call (below_size K.out.below) b); clear b))
 clear HV
 go_loopg [11] 4 (fun kq v11 w' => ∃ n : Nat, v11 = .int .i64 (n : Int) ∧ n + kq = 4 ∧ Aside0 (Bks w.heap.size w w' [(g3, 62, bandsC x0 y0 x1 y1 n), (g2, 62, #[.int .i64 0, .int .i64 0, .int .i64 0, .int .i64 0, .int .i64 0, .int .i64 0, .int .i64 0, .int .i64 0, .int .i64 0, .int .i64 0, .int .i64 0, .int .i64 0, .int .i64 0, .int .i64 0, .int .i64 0, .int .i64 0]), (g1, 23, #[.int .i64 x0, .int .i64 y0, .int .i64 x1, .int .i64 y1])]))
 case atStart => exact ⟨0, rfl, rfl, K⟩
 case round =>
 clear K
 obtain ⟨n, rfl, hn, K⟩ := hrel
 have hn4 : n = 0 ∨ n = 1 ∨ n = 2 ∨ n = 3 ∨ n = 4 := by omega
 rcases hn4 with rfl | rfl | rfl | rfl | rfl
 ·have HK := K.out
  clear K
  have K := Aside0.mk (show Bks w.heap.size w wr [(g3, 62, #[.int .i64 0, .int .i64 0, .int .i64 0, .int .i64 0, .int .i64 0, .int .i64 0, .int .i64 0, .int .i64 0, .int .i64 0, .int .i64 0, .int .i64 0, .int .i64 0, .int .i64 0, .int .i64 0, .int .i64 0, .int .i64 0]), (g2, 62, #[.int .i64 0, .int .i64 0, .int .i64 0, .int .i64 0, .int .i64 0, .int .i64 0, .int .i64 0, .int .i64 0, .int .i64 0, .int .i64 0, .int .i64 0, .int .i64 0, .int .i64 0, .int .i64 0, .int .i64 0, .int .i64 0]), (g1, 23, #[.int .i64 x0, .int .i64 y0, .int .i64 x1, .int .i64 y1])] from HK)
  clear HK
  have f0 : wr.cell? ⟨g1, 0, none⟩ = some (.int .i64 x0) := K.out.cell 2 rfl 0 rfl
  have f1 : wr.cell? ⟨g1, 1, none⟩ = some (.int .i64 y0) := K.out.cell 2 rfl 1 rfl
  have f2 : wr.cell? ⟨g1, 2, none⟩ = some (.int .i64 x1) := K.out.cell 2 rfl 2 rfl
  have f3 : wr.cell? ⟨g1, 3, none⟩ = some (.int .i64 y1) := K.out.cell 2 rfl 3 rfl
  go_wp2_with (first
   | ((with_reducible refine gate_store (t := 23) (p := 42) (v := .tmp 41) rfl ?_); refine store_mid_ev (cs := #[.int .i64 (wrap64 (Int.tdiv (wrap64 (x0 + 1)) 2)), .int .i64 (wrap64 (Int.tdiv (wrap64 (y0 + 1)) 2)), .int .i64 (wrap64 (Int.tdiv (wrap64 (x1 + 1)) 2)), .int .i64 (wrap64 (Int.tdiv (wrap64 (y1 + 1)) 2))]) rfl rfl 23 (.tmp 42) (.tmp 41) rfl rfl (by kernel_rfl) (K.out.get 0 rfl) (Nat.le_of_ble_eq_true rfl) rfl (by first | (kernel_rfl) | (simp [Value.oneCell'])) (new := #[.int .i64 (wrap64 (Int.tdiv (wrap64 (x0 + 1)) 2)), .int .i64 (wrap64 (Int.tdiv (wrap64 (y0 + 1)) 2)), .int .i64 (wrap64 (Int.tdiv (wrap64 (x1 + 1)) 2)), .int .i64 (wrap64 (Int.tdiv (wrap64 (y1 + 1)) 2)), .int .i64 0, .int .i64 0, .int .i64 0, .int .i64 0, .int .i64 0, .int .i64 0, .int .i64 0, .int .i64 0, .int .i64 0, .int .i64 0, .int .i64 0, .int .i64 0]) rfl ?_; intro wS hs; replace K := Aside0.mk (K.out.stored 0 rfl hs); clear hs))
  clear f0 f1 f2 f3
  go_roundg (3)
  case measure => omega
  case rel => exact ⟨1, rfl, by omega, K⟩
 ·have HK := K.out
  clear K
  have K := Aside0.mk (show Bks w.heap.size w wr [(g3, 62, #[.int .i64 (wrap64 (Int.tdiv (wrap64 (x0 + 1)) 2)), .int .i64 (wrap64 (Int.tdiv (wrap64 (y0 + 1)) 2)), .int .i64 (wrap64 (Int.tdiv (wrap64 (x1 + 1)) 2)), .int .i64 (wrap64 (Int.tdiv (wrap64 (y1 + 1)) 2)), .int .i64 0, .int .i64 0, .int .i64 0, .int .i64 0, .int .i64 0, .int .i64 0, .int .i64 0, .int .i64 0, .int .i64 0, .int .i64 0, .int .i64 0, .int .i64 0]), (g2, 62, #[.int .i64 0, .int .i64 0, .int .i64 0, .int .i64 0, .int .i64 0, .int .i64 0, .int .i64 0, .int .i64 0, .int .i64 0, .int .i64 0, .int .i64 0, .int .i64 0, .int .i64 0, .int .i64 0, .int .i64 0, .int .i64 0]), (g1, 23, #[.int .i64 x0, .int .i64 y0, .int .i64 x1, .int .i64 y1])] from HK)
  clear HK
  have f0 : wr.cell? ⟨g1, 0, none⟩ = some (.int .i64 x0) := K.out.cell 2 rfl 0 rfl
  have f1 : wr.cell? ⟨g1, 1, none⟩ = some (.int .i64 y0) := K.out.cell 2 rfl 1 rfl
  have f2 : wr.cell? ⟨g1, 2, none⟩ = some (.int .i64 x1) := K.out.cell 2 rfl 2 rfl
  have f3 : wr.cell? ⟨g1, 3, none⟩ = some (.int .i64 y1) := K.out.cell 2 rfl 3 rfl
  go_wp2_with (first
   | ((with_reducible refine gate_store (t := 23) (p := 42) (v := .tmp 41) rfl ?_); refine store_mid_ev (cs := #[.int .i64 (wrap64 (Int.tdiv (wrap64 (x0 + 0)) 2)), .int .i64 (wrap64 (Int.tdiv (wrap64 (y0 + 1)) 2)), .int .i64 (wrap64 (Int.tdiv (wrap64 (x1 + 0)) 2)), .int .i64 (wrap64 (Int.tdiv (wrap64 (y1 + 1)) 2))]) rfl rfl 23 (.tmp 42) (.tmp 41) rfl rfl (by kernel_rfl) (K.out.get 0 rfl) (Nat.le_of_ble_eq_true rfl) rfl (by first | (kernel_rfl) | (simp [Value.oneCell'])) (new := #[.int .i64 (wrap64 (Int.tdiv (wrap64 (x0 + 1)) 2)), .int .i64 (wrap64 (Int.tdiv (wrap64 (y0 + 1)) 2)), .int .i64 (wrap64 (Int.tdiv (wrap64 (x1 + 1)) 2)), .int .i64 (wrap64 (Int.tdiv (wrap64 (y1 + 1)) 2)), .int .i64 (wrap64 (Int.tdiv (wrap64 (x0 + 0)) 2)), .int .i64 (wrap64 (Int.tdiv (wrap64 (y0 + 1)) 2)), .int .i64 (wrap64 (Int.tdiv (wrap64 (x1 + 0)) 2)), .int .i64 (wrap64 (Int.tdiv (wrap64 (y1 + 1)) 2)), .int .i64 0, .int .i64 0, .int .i64 0, .int .i64 0, .int .i64 0, .int .i64 0, .int .i64 0, .int .i64 0]) rfl ?_; intro wS hs; replace K := Aside0.mk (K.out.stored 0 rfl hs); clear hs))
  clear f0 f1 f2 f3
  go_roundg (2)
  case measure => omega
  case rel => exact ⟨2, rfl, by omega, K⟩
 ·have HK := K.out
  clear K
  have K := Aside0.mk (show Bks w.heap.size w wr [(g3, 62, #[.int .i64 (wrap64 (Int.tdiv (wrap64 (x0 + 1)) 2)), .int .i64 (wrap64 (Int.tdiv (wrap64 (y0 + 1)) 2)), .int .i64 (wrap64 (Int.tdiv (wrap64 (x1 + 1)) 2)), .int .i64 (wrap64 (Int.tdiv (wrap64 (y1 + 1)) 2)), .int .i64 (wrap64 (Int.tdiv (wrap64 (x0 + 0)) 2)), .int .i64 (wrap64 (Int.tdiv (wrap64 (y0 + 1)) 2)), .int .i64 (wrap64 (Int.tdiv (wrap64 (x1 + 0)) 2)), .int .i64 (wrap64 (Int.tdiv (wrap64 (y1 + 1)) 2)), .int .i64 0, .int .i64 0, .int .i64 0, .int .i64 0, .int .i64 0, .int .i64 0, .int .i64 0, .int .i64 0]), (g2, 62, #[.int .i64 0, .int .i64 0, .int .i64 0, .int .i64 0, .int .i64 0, .int .i64 0, .int .i64 0, .int .i64 0, .int .i64 0, .int .i64 0, .int .i64 0, .int .i64 0, .int .i64 0, .int .i64 0, .int .i64 0, .int .i64 0]), (g1, 23, #[.int .i64 x0, .int .i64 y0, .int .i64 x1, .int .i64 y1])] from HK)
  clear HK
  have f0 : wr.cell? ⟨g1, 0, none⟩ = some (.int .i64 x0) := K.out.cell 2 rfl 0 rfl
  have f1 : wr.cell? ⟨g1, 1, none⟩ = some (.int .i64 y0) := K.out.cell 2 rfl 1 rfl
  have f2 : wr.cell? ⟨g1, 2, none⟩ = some (.int .i64 x1) := K.out.cell 2 rfl 2 rfl
  have f3 : wr.cell? ⟨g1, 3, none⟩ = some (.int .i64 y1) := K.out.cell 2 rfl 3 rfl
  go_wp2_with (first
   | ((with_reducible refine gate_store (t := 23) (p := 42) (v := .tmp 41) rfl ?_); refine store_mid_ev (cs := #[.int .i64 (wrap64 (Int.tdiv (wrap64 (x0 + 1)) 2)), .int .i64 (wrap64 (Int.tdiv (wrap64 y0) 2)), .int .i64 (wrap64 (Int.tdiv (wrap64 (x1 + 1)) 2)), .int .i64 (wrap64 (Int.tdiv (wrap64 y1) 2))]) rfl rfl 23 (.tmp 42) (.tmp 41) rfl rfl (by kernel_rfl) (K.out.get 0 rfl) (Nat.le_of_ble_eq_true rfl) rfl (by first | (kernel_rfl) | (simp [Value.oneCell'])) (new := #[.int .i64 (wrap64 (Int.tdiv (wrap64 (x0 + 1)) 2)), .int .i64 (wrap64 (Int.tdiv (wrap64 (y0 + 1)) 2)), .int .i64 (wrap64 (Int.tdiv (wrap64 (x1 + 1)) 2)), .int .i64 (wrap64 (Int.tdiv (wrap64 (y1 + 1)) 2)), .int .i64 (wrap64 (Int.tdiv (wrap64 (x0 + 0)) 2)), .int .i64 (wrap64 (Int.tdiv (wrap64 (y0 + 1)) 2)), .int .i64 (wrap64 (Int.tdiv (wrap64 (x1 + 0)) 2)), .int .i64 (wrap64 (Int.tdiv (wrap64 (y1 + 1)) 2)), .int .i64 (wrap64 (Int.tdiv (wrap64 (x0 + 1)) 2)), .int .i64 (wrap64 (Int.tdiv (wrap64 y0) 2)), .int .i64 (wrap64 (Int.tdiv (wrap64 (x1 + 1)) 2)), .int .i64 (wrap64 (Int.tdiv (wrap64 y1) 2)), .int .i64 0, .int .i64 0, .int .i64 0, .int .i64 0]) rfl ?_; intro wS hs; replace K := Aside0.mk (K.out.stored 0 rfl hs); clear hs))
  clear f0 f1 f2 f3
  go_roundg (1)
  case measure => omega
  case rel => exact ⟨3, rfl, by omega, K⟩
 ·have HK := K.out
  clear K
  have K := Aside0.mk (show Bks w.heap.size w wr [(g3, 62, #[.int .i64 (wrap64 (Int.tdiv (wrap64 (x0 + 1)) 2)), .int .i64 (wrap64 (Int.tdiv (wrap64 (y0 + 1)) 2)), .int .i64 (wrap64 (Int.tdiv (wrap64 (x1 + 1)) 2)), .int .i64 (wrap64 (Int.tdiv (wrap64 (y1 + 1)) 2)), .int .i64 (wrap64 (Int.tdiv (wrap64 (x0 + 0)) 2)), .int .i64 (wrap64 (Int.tdiv (wrap64 (y0 + 1)) 2)), .int .i64 (wrap64 (Int.tdiv (wrap64 (x1 + 0)) 2)), .int .i64 (wrap64 (Int.tdiv (wrap64 (y1 + 1)) 2)), .int .i64 (wrap64 (Int.tdiv (wrap64 (x0 + 1)) 2)), .int .i64 (wrap64 (Int.tdiv (wrap64 y0) 2)), .int .i64 (wrap64 (Int.tdiv (wrap64 (x1 + 1)) 2)), .int .i64 (wrap64 (Int.tdiv (wrap64 y1) 2)), .int .i64 0, .int .i64 0, .int .i64 0, .int .i64 0]), (g2, 62, #[.int .i64 0, .int .i64 0, .int .i64 0, .int .i64 0, .int .i64 0, .int .i64 0, .int .i64 0, .int .i64 0, .int .i64 0, .int .i64 0, .int .i64 0, .int .i64 0, .int .i64 0, .int .i64 0, .int .i64 0, .int .i64 0]), (g1, 23, #[.int .i64 x0, .int .i64 y0, .int .i64 x1, .int .i64 y1])] from HK)
  clear HK
  have f0 : wr.cell? ⟨g1, 0, none⟩ = some (.int .i64 x0) := K.out.cell 2 rfl 0 rfl
  have f1 : wr.cell? ⟨g1, 1, none⟩ = some (.int .i64 y0) := K.out.cell 2 rfl 1 rfl
  have f2 : wr.cell? ⟨g1, 2, none⟩ = some (.int .i64 x1) := K.out.cell 2 rfl 2 rfl
  have f3 : wr.cell? ⟨g1, 3, none⟩ = some (.int .i64 y1) := K.out.cell 2 rfl 3 rfl
  go_wp2_with (first
   | ((with_reducible refine gate_store (t := 23) (p := 42) (v := .tmp 41) rfl ?_); refine store_mid_ev (cs := #[.int .i64 (wrap64 (Int.tdiv (wrap64 (x0 + 0)) 2)), .int .i64 (wrap64 (Int.tdiv (wrap64 y0) 2)), .int .i64 (wrap64 (Int.tdiv (wrap64 (x1 + 0)) 2)), .int .i64 (wrap64 (Int.tdiv (wrap64 y1) 2))]) rfl rfl 23 (.tmp 42) (.tmp 41) rfl rfl (by kernel_rfl) (K.out.get 0 rfl) (Nat.le_of_ble_eq_true rfl) rfl (by first | (kernel_rfl) | (simp [Value.oneCell'])) (new := #[.int .i64 (wrap64 (Int.tdiv (wrap64 (x0 + 1)) 2)), .int .i64 (wrap64 (Int.tdiv (wrap64 (y0 + 1)) 2)), .int .i64 (wrap64 (Int.tdiv (wrap64 (x1 + 1)) 2)), .int .i64 (wrap64 (Int.tdiv (wrap64 (y1 + 1)) 2)), .int .i64 (wrap64 (Int.tdiv (wrap64 (x0 + 0)) 2)), .int .i64 (wrap64 (Int.tdiv (wrap64 (y0 + 1)) 2)), .int .i64 (wrap64 (Int.tdiv (wrap64 (x1 + 0)) 2)), .int .i64 (wrap64 (Int.tdiv (wrap64 (y1 + 1)) 2)), .int .i64 (wrap64 (Int.tdiv (wrap64 (x0 + 1)) 2)), .int .i64 (wrap64 (Int.tdiv (wrap64 y0) 2)), .int .i64 (wrap64 (Int.tdiv (wrap64 (x1 + 1)) 2)), .int .i64 (wrap64 (Int.tdiv (wrap64 y1) 2)), .int .i64 (wrap64 (Int.tdiv (wrap64 (x0 + 0)) 2)), .int .i64 (wrap64 (Int.tdiv (wrap64 y0) 2)), .int .i64 (wrap64 (Int.tdiv (wrap64 (x1 + 0)) 2)), .int .i64 (wrap64 (Int.tdiv (wrap64 y1) 2))]) rfl ?_; intro wS hs; replace K := Aside0.mk (K.out.stored 0 rfl hs); clear hs))
  clear f0 f1 f2 f3
  go_roundg (0)
  case measure => omega
  case rel => exact ⟨4, rfl, by omega, K⟩
 ·have HK := K.out
  clear K
  have K7 := Aside0.mk (show Bks w.heap.size w wr [(g3, 62, #[.int .i64 (wrap64 (Int.tdiv (wrap64 (x0 + 1)) 2)), .int .i64 (wrap64 (Int.tdiv (wrap64 (y0 + 1)) 2)), .int .i64 (wrap64 (Int.tdiv (wrap64 (x1 + 1)) 2)), .int .i64 (wrap64 (Int.tdiv (wrap64 (y1 + 1)) 2)), .int .i64 (wrap64 (Int.tdiv (wrap64 (x0 + 0)) 2)), .int .i64 (wrap64 (Int.tdiv (wrap64 (y0 + 1)) 2)), .int .i64 (wrap64 (Int.tdiv (wrap64 (x1 + 0)) 2)), .int .i64 (wrap64 (Int.tdiv (wrap64 (y1 + 1)) 2)), .int .i64 (wrap64 (Int.tdiv (wrap64 (x0 + 1)) 2)), .int .i64 (wrap64 (Int.tdiv (wrap64 y0) 2)), .int .i64 (wrap64 (Int.tdiv (wrap64 (x1 + 1)) 2)), .int .i64 (wrap64 (Int.tdiv (wrap64 y1) 2)), .int .i64 (wrap64 (Int.tdiv (wrap64 (x0 + 0)) 2)), .int .i64 (wrap64 (Int.tdiv (wrap64 y0) 2)), .int .i64 (wrap64 (Int.tdiv (wrap64 (x1 + 0)) 2)), .int .i64 (wrap64 (Int.tdiv (wrap64 y1) 2))]), (g2, 62, #[.int .i64 0, .int .i64 0, .int .i64 0, .int .i64 0, .int .i64 0, .int .i64 0, .int .i64 0, .int .i64 0, .int .i64 0, .int .i64 0, .int .i64 0, .int .i64 0, .int .i64 0, .int .i64 0, .int .i64 0, .int .i64 0]), (g1, 23, #[.int .i64 x0, .int .i64 y0, .int .i64 x1, .int .i64 y1])] from HK)
  clear HK
  go_wp2_with (first
   | ((with_reducible refine gate_dst (N := 44) rfl ?_); refine load_all_ev rfl 62 (.tmp 3) rfl rfl (K7.out.get 0 rfl) Try.underlying62 rfl rfl ?_)
   | ((with_reducible refine gate_store (t := 62) (p := 2) (v := .tmp 44) rfl ?_); refine store_ev rfl rfl 62 (.tmp 2) (.tmp 44) rfl rfl rfl (K7.out.get 1 rfl) rfl rfl (by first | (kernel_rfl) | (simp [Value.oneCell'])) ?_; intro W8 hs; replace K7 := Aside0.mk (K7.out.stored 1 rfl hs); clear hs))
  refine bodyPost_ret (results_single rfl (.cell g2 62 _ (0, 0) _ rfl (K7.out.get 1 rfl) Try.underlying62 rfl (by kernel_rfl) .nil)) rfl ?_
  exact ⟨rfl, K7.out.below⟩
/-- Blocks that are held and rows of numbers, no two in one block. -/
structure Hold (n : Nat) (w0 W : World) (l : List (Nat × Nat × Array Value)) (r : List (Value × List Int)) : Prop where
  bks : Bks n w0 W l
  off : ∀ (i j : Nat) (b : Nat × Nat × Array Value) (p : Value × List Int), l[i]? = some b → r[j]? = some p → p.1.ownBlock ≠ some b.1
  row : ∀ (i : Nat) (p : Value × List Int), r[i]? = some p → Kd.R (Kd.int .i64) 3 W n (fun k => some k = p.1.ownBlock) p.1 p.2
  apart : ∀ (i j : Nat) (p q : Value × List Int), i ≠ j → r[i]? = some p → r[j]? = some q → ∀ k, p.1.ownBlock = some k → q.1.ownBlock ≠ some k
namespace Hold
variable {n : Nat} {w0 W W' : World} {l : List (Nat × Nat × Array Value)} {r : List (Value × List Int)} {i g t : Nat} {cs : Array Value} {v : Value} {xs : List Int}
theorem nil (w : World) : Hold w.heap.size w w [] [] := ⟨Bks.nil w, fun i j b p h => by simp at h, fun i p h => by simp at h, fun i j p q _ h => by simp at h⟩
theorem below (h : Hold n w0 W l r) : Below n w0 W := h.bks.below
theorem get (h : Hold n w0 W l r) (i : Nat) (hi : l[i]? = some (g, t, cs)) : W.heap[g]? = some (.cells cs t (0, 0)) := h.bks.get i hi
theorem cell (h : Hold n w0 W l r) (i : Nat) (hi : l[i]? = some (g, t, cs)) (j : Nat) {v : Value} (hv : cs[j]? = some v) : W.cell? ⟨g, j, none⟩ = some v := h.bks.cell i hi j hv
theorem rowAt (h : Hold n w0 W l r) (i : Nat) (hi : r[i]? = some (v, xs)) : Kd.R (Kd.int .i64) 3 W n (fun k => some k = v.ownBlock) v xs := h.row i _ hi
theorem readAt {A : Option Addr} {m c : Nat} (h : Hold n w0 W l r) (i : Nat) (hi : r[i]? = some (.slice A m c, xs)) : m = xs.length ∧ m ≤ c ∧ Kd.C (Kd.int .i64) W A xs.length xs := Kd.R_reads' (h.rowAt i hi)
theorem rowNe (h : Hold n w0 W l r) {i j : Nat} {p : Value × List Int} (hi : l[i]? = some (g, t, cs)) (hj : r[j]? = some p) : p.1.ownBlock ≠ some g := h.off i j _ p hi hj
/-- All rows are kept where no own block is turned. -/
theorem moved (h : Hold n w0 W l r) (hb : Bks n w0 W' l) (hm : ∀ (i : Nat) (p : Value × List Int), r[i]? = some p → ∀ k, p.1.ownBlock = some k → W'.heap[k]? = W.heap[k]?) : Hold n w0 W' l r :=
  ⟨hb, h.off, fun i p hi => Kd.R_step (h.row i p hi) (fun k hk _ => hm i p hi k hk.symm), h.apart⟩
theorem call (h : Hold n w0 W l r) (hn : n ≤ W.heap.size) (hb : Below W.heap.size W W') : Hold n w0 W' l r :=
  ⟨h.bks.call hn hb, h.off, fun i p hi => Kd.R_below (h.row i p hi) hb, h.apart⟩
theorem drew (h : Hold n w0 W l r) : Hold n w0 W.drew l r := ⟨h.bks.drew, h.off, fun i p hi => Kd.R_drew (h.row i p hi), h.apart⟩
theorem box (h : Hold n w0 W l r) (hn : n ≤ W.heap.size) (hg : g = W.heap.size) (hbox : W'.heap[g]? = some (.cells cs t (0, 0))) (hb : Below W.heap.size W W') (_ht : True) : Hold n w0 W' ((g, t, cs) :: l) r :=
  ⟨h.bks.box hn hg hbox hb, fun i j b p hi hj => by
    cases i with
    | zero => obtain rfl : (g, t, cs) = b := by simpa using hi
              intro e
              have := Kd.R_lt (h.row j p hj) g e
              omega
    | succ i => exact h.off i j b p (by simpa using hi) hj, fun i p hi => Kd.R_below (h.row i p hi) hb, h.apart⟩
theorem off_set {cs' : Array Value} (h : Hold n w0 W l r) (hi : l[i]? = some (g, t, cs)) : ∀ (j m : Nat) (b : Nat × Nat × Array Value) (p : Value × List Int), (l.set i (g, t, cs'))[j]? = some b → r[m]? = some p → p.1.ownBlock ≠ some b.1 := fun j m b p hj hm => by
  rw [List.getElem?_set] at hj
  split at hj
  · split at hj
    · rw [← Option.some.inj hj]
      exact h.off i m (g, t, cs) p hi hm
    · exact absurd hj (by simp)
  · exact h.off j m b p hj hm
theorem into (h : Hold n w0 W l r) (hi : l[i]? = some (g, t, cs)) (cs' : Array Value) (h1 : W'.heap[g]? = some (.cells cs' t (0, 0))) (h2 : ∀ (g' : Nat) (o : Obj), g' ≠ g → W.heap[g']? = some o → W'.heap[g']? = some o) (h3 : Below n w0 W') : Hold n w0 W' (l.set i (g, t, cs')) r :=
  ⟨h.bks.into hi cs' h1 h2 h3, h.off_set hi, fun j p hj => Kd.R_step (h.row j p hj) (fun k hk hlt => by
    have hne : k ≠ g := fun e => h.rowNe hi hj (by rw [← hk, e])
    obtain ⟨cells, hc⟩ := Kd.R_typed (h.row j p hj) k hk.symm
    rw [hc]
    exact h2 k _ hne hc), h.apart⟩
theorem set (h : Hold n w0 W l r) (i : Nat) (hi : l[i]? = some (g, t, cs)) (j : Nat) (v : Value) {cs' : Array Value} (hcs : cs.setIfInBounds j v = cs') : Hold n w0 (W.setCell ⟨g, j, none⟩ v) (l.set i (g, t, cs')) r :=
  h.into hi cs' (blk_put (h.get i hi) j v hcs) (fun g' o hg ho => (Below.heap_setCell W ⟨g, j, none⟩ v g' hg).trans ho) (h.below.setCell (p := ⟨g, j, none⟩) (h.bks.ge i _ hi) v)
theorem stored (h : Hold n w0 W l r) (i : Nat) (hi : l[i]? = some (g, t, cs)) {cs' : Array Value} (hs : Stored W g t cs' W') : Hold n w0 W' (l.set i (g, t, cs')) r :=
  h.into hi cs' hs.blk hs.far (hs.below _ _ (h.bks.ge i _ hi) h.below)
/-- A row that is new since. -/
theorem add {ok : Nat → Prop} (h : Hold n w0 W l r) (hn : n ≤ W.heap.size) (hR : Kd.R (Kd.int .i64) 3 W' W.heap.size ok v xs) (hb : Below W.heap.size W W') : Hold n w0 W' l ((v, xs) :: r) := by
  have h' := h.call hn hb
  have lt : ∀ (j : Nat) (p : Value × List Int), r[j]? = some p → ∀ k, p.1.ownBlock = some k → k < W.heap.size := fun j p hj k hk => Kd.R_lt (h.row j p hj) k hk
  refine ⟨h'.bks, fun i j b p hi hj => ?_, fun i p hi => ?_, fun i j p q hij hi hj k hk => ?_⟩
  · cases j with
    | zero => obtain rfl : (v, xs) = p := by simpa using hj
              intro e
              have h1 := Kd.R_base hR b.1 e
              have h2 := blk_lt (h.bks.blk i b hi)
              omega
    | succ j => exact h.off i j b p hi (by simpa using hj)
  · cases i with
    | zero => obtain rfl : (v, xs) = p := by simpa using hi
              exact Kd.R_lower (Kd.R_tight rfl hR) hn
    | succ i => exact h'.row i p (by simpa using hi)
  · cases i with
    | zero => obtain rfl : (v, xs) = p := by simpa using hi
              cases j with
              | zero => exact absurd rfl hij
              | succ j => intro hq
                          have h1 := Kd.R_base hR k hk
                          have h2 := lt j q (by simpa using hj) k hq
                          omega
    | succ i => cases j with
              | zero => obtain rfl : (v, xs) = q := by simpa using hj
                        intro hq
                        have h1 := Kd.R_base hR k hq
                        have h2 := lt i p (by simpa using hi) k hk
                        omega
              | succ j => exact h.apart i j p q (fun e => hij (by rw [e])) (by simpa using hi) (by simpa using hj) k hk
/-- One row is told anew, the others and the blocks are apart from it. -/
theorem row_into {v' : Value} {xs' : List Int} (h : Hold n w0 W l r) (hi : r[i]? = some (v, xs)) (hR : Kd.R (Kd.int .i64) 3 W' n (fun _ => True) v' xs') (hB : Below n w0 W')
    (hk : ∀ k o, W.heap[k]? = some o → v.ownBlock ≠ some k → W'.heap[k]? = some o) (hat : v'.ownBlock = v.ownBlock ∨ ∃ b, v'.ownBlock = some b ∧ W.heap.size ≤ b) : Hold n w0 W' l (r.set i (v', xs')) := by
  have key : ∀ (j : Nat) (p : Value × List Int), (r.set i (v', xs'))[j]? = some p → (j = i ∧ p = (v', xs')) ∨ (j ≠ i ∧ r[j]? = some p) := by
    intro j p hj
    by_cases hji : j = i
    · subst hji
      rw [List.getElem?_set, if_pos rfl] at hj
      split at hj
      · exact .inl ⟨rfl, (Option.some.inj hj).symm⟩
      · exact absurd hj (by simp)
    · rw [List.getElem?_set, if_neg (Ne.symm hji)] at hj
      exact .inr ⟨hji, hj⟩
  have ap : ∀ (j : Nat) (p : Value × List Int), j ≠ i → r[j]? = some p → ∀ k, p.1.ownBlock = some k → v'.ownBlock ≠ some k := by
    intro j p hj hp k hk' hv
    rcases hat with e | ⟨b, e, hb⟩
    · exact h.apart j i p _ hj hp hi k hk' (e ▸ hv)
    · have h1 := Kd.R_lt (h.row j p hp) k hk'
      rw [e] at hv
      have := Option.some.inj hv
      omega
  refine ⟨⟨fun j b hj => hk _ _ (h.bks.blk j b hj) (fun e => h.rowNe (t := b.2.1) (cs := b.2.2) (show l[j]? = some (b.1, b.2.1, b.2.2) from hj) hi e), h.bks.ne, h.bks.ge, hB⟩, fun i' j b p hi' hj => ?_, fun j p hj => ?_, fun j m p q hjm hj hm k hk' => ?_⟩
  · rcases key j p hj with ⟨rfl, rfl⟩ | ⟨hne, hp⟩
    · rcases hat with e | ⟨b', e, hb⟩
      · show v'.ownBlock ≠ _
        rw [e]
        exact h.off i' j b _ hi' hi
      · show v'.ownBlock ≠ _
        rw [e]
        intro e2
        have h1 := blk_lt (h.bks.blk i' b hi')
        have := Option.some.inj e2
        omega
    · exact h.off i' j b p hi' hp
  · rcases key j p hj with ⟨rfl, rfl⟩ | ⟨hne, hp⟩
    · exact Kd.R_tight rfl hR
    · refine Kd.R_step (h.row j p hp) (fun k hk' _ => ?_)
      obtain ⟨cells, hc⟩ := Kd.R_typed (h.row j p hp) k hk'.symm
      rw [hc]
      exact hk k _ hc (h.apart j i p _ hne hp hi k hk'.symm)
  · rcases key j p hj with ⟨rfl, rfl⟩ | ⟨hne, hp⟩ <;> rcases key m q hm with ⟨rfl, rfl⟩ | ⟨hne', hq⟩
    · exact absurd rfl hjm
    · exact fun e => ap m q hne' hq k e hk'
    · exact ap j p hne hp k hk'
    · exact h.apart j m p q hjm hp hq k hk'
theorem kept {a : Nat} {xs' : List Int} {ok : Nat → Prop} (h : Hold n w0 W l r) (hi : r[i]? = some (v, xs)) (ha : v.ownBlock = some a) (hk : Kept W W' (fun k => k = a)) (hR : Kd.R (Kd.int .i64) 3 W' n ok v xs') (hB : Below n w0 W') : Hold n w0 W' l (r.set i (v, xs')) :=
  h.row_into hi (Kd.R_mono hR (fun _ _ => trivial)) hB (fun k o ho hne => blk_kept ho hk (fun e => hne (by rw [ha, e]))) (.inl rfl)
theorem grown {v' : Value} {xs' : List Int} {ok : Nat → Prop} (h : Hold n w0 W l r) (hi : r[i]? = some (v, xs)) (hR : Kd.R (Kd.int .i64) 3 W' n ok v' xs') (hB : Below n w0 W') (hg : W.grownBy W' v.ownBlock) (hat : v'.ownBlock = v.ownBlock ∨ ∃ b, v'.ownBlock = some b ∧ W.heap.size ≤ b) : Hold n w0 W' l (r.set i (v', xs')) :=
  h.row_into hi (Kd.R_mono hR (fun _ _ => trivial)) hB (fun k o ho hne => (hg.block k (blk_lt ho) (fun e => hne e.symm)).trans ho) hat
/-- Some of the rows. -/
theorem pick {r' : List (Value × List Int)} (h : Hold n w0 W l r) (idx : List Nat) (hnd : idx.Nodup) (he : r'.map some = idx.map (fun j => r[j]?)) : Hold n w0 W l r' := by
  have key : ∀ (i : Nat) (p : Value × List Int), r'[i]? = some p → ∃ j : Nat, idx[i]? = some j ∧ r[j]? = some p := by
    intro i p hi
    have h1 : (r'.map some)[i]? = some (some p) := by rw [List.getElem?_map, hi]; rfl
    rw [he, List.getElem?_map] at h1
    cases hx : idx[i]? with
    | none => rw [hx] at h1; exact absurd h1 (by simp)
    | some j => rw [hx] at h1; exact ⟨j, rfl, Option.some.inj h1⟩
  refine ⟨h.bks, fun i j b p hi hj => ?_, fun i p hi => ?_, fun i j p q hij hi hj => ?_⟩
  · obtain ⟨m, _, hm⟩ := key j p hj
    exact h.off i m b p hi hm
  · obtain ⟨j, _, hj⟩ := key i p hi
    exact h.row j p hj
  · obtain ⟨i', h1, h2⟩ := key i p hi
    obtain ⟨j', h3, h4⟩ := key j q hj
    refine h.apart i' j' p q (fun e => hij ?_) h2 h4
    subst e
    obtain ⟨hi1, e1⟩ := List.getElem?_eq_some_iff.mp h1
    obtain ⟨hj1, e2⟩ := List.getElem?_eq_some_iff.mp h3
    exact List.getElem_inj hnd |>.mp (e1.trans e2.symm)
theorem tl {x : Nat × Nat × Array Value} (h : Hold n w0 W (x :: l) r) : Hold n w0 W l r := ⟨h.bks.tl, fun i j b p hi hj => h.off (i + 1) j b p (by simpa using hi) hj, h.row, h.apart⟩
theorem noBlk (h : Hold n w0 W l r) : Hold n w0 W [] r := ⟨⟨fun i b h => by simp at h, fun i j b c _ h => by simp at h, fun i b h => by simp at h, h.below⟩, fun i j b p h => by simp at h, h.row, h.apart⟩
/-- What a call made is held beside what was. -/
theorem join {r' : List (Value × List Int)} (h : Hold n w0 W l r) (hn : n ≤ W.heap.size) (h' : Hold W.heap.size W W' [] r') : Hold n w0 W' l (r' ++ r) := by
  have hc := h.call hn h'.below
  have cut : ∀ (i : Nat) (p : Value × List Int), (r' ++ r)[i]? = some p → (i < r'.length ∧ r'[i]? = some p) ∨ (r'.length ≤ i ∧ r[i - r'.length]? = some p) := by
    intro i p hi
    by_cases hlt : i < r'.length
    · rw [List.getElem?_append_left hlt] at hi
      exact .inl ⟨hlt, hi⟩
    · rw [List.getElem?_append_right (by omega)] at hi
      exact .inr ⟨by omega, hi⟩
  refine ⟨hc.bks, fun i j b p hi hj => ?_, fun i p hi => ?_, fun i j p q hij hi hj k hk => ?_⟩
  · rcases cut j p hj with ⟨_, hp⟩ | ⟨_, hp⟩
    · intro e
      have h1 := Kd.R_base (h'.row j p hp) b.1 e
      have h2 := blk_lt (h.bks.blk i b hi)
      omega
    · exact h.off i _ b p hi hp
  · rcases cut i p hi with ⟨_, hp⟩ | ⟨_, hp⟩
    · exact Kd.R_lower (h'.row i p hp) hn
    · exact hc.row _ p hp
  · rcases cut i p hi with ⟨h1, hp⟩ | ⟨h1, hp⟩ <;> rcases cut j q hj with ⟨h2, hq⟩ | ⟨h2, hq⟩
    · exact h'.apart i j p q hij hp hq k hk
    · intro e
      have := Kd.R_base (h'.row i p hp) k hk
      have := Kd.R_lt (h.row _ q hq) k e
      omega
    · intro e
      have := Kd.R_base (h'.row j q hq) k e
      have := Kd.R_lt (h.row _ p hp) k hk
      omega
    · exact h.apart _ _ p q (by omega) hp hq k hk
/-- Two new rows of a call. -/
theorem size (h : Hold n w0 W l r) (hn : n = w0.heap.size) : n ≤ W.heap.size := by
  subst hn
  exact below_size h.below
end Hold
set_option maxHeartbeats 8000000 in
set_option maxRecDepth 100000 in
theorem setColumn_none (g o : Nat) (x0 x1 : Int) (x : Int) (A : Option Addr) (cc : Nat) (w : World)
    (hce : w.cell? ⟨g, o, none⟩ = some (.int .i64 x0) ∧ w.cell? ⟨g, o + 2, none⟩ = some (.int .i64 x1)) :
    Calls Try.prog 63 #[.pointer (some ⟨g, o, none⟩), .int .i64 x, .slice A 0 cc] w fun e w' => e = .returned (.tuple #[]) ∧ w' = w.drew := by
  have HCE := Aside0.mk hce
  clear hce
  go_enter Try.func63, Try.ntmps63
  go_upto_region 0 with (fail)
  go_cut [6] (fun v6 wc => v6 = .int .i64 (wrap64 (x1 - x0)) ∧ wc = w.drew)
  case first =>
    refine start_ (n := 12) (S := fun w' => w'.cell? ⟨g, o, none⟩ = some (.int .i64 x0) ∧ w'.cell? ⟨g, o + 2, none⟩ = some (.int .i64 x1)) (ds := []) #[false, false, false, false, false, false, false, false, false, false, false, false] (by kernel_rfl) rfl rfl HCE.out (fun hHeld0 => ?_)
    generalize hw1 : w.drew = w1 at *
    clear hw1
    have hHeld := Aside0.mk hHeld0
    clear hHeld0
    refine pT (i := 0) (N := some 9) ?_
    refine pT (i := 1) (N := some 10) ?_
    refine pT (i := 2) (N := some 11) ?_
    refine pT (i := 3) (N := some 12) ?_
    refine tT (i := 4) (N := some 13) (v := ?_) hHeld.out ?_
    refine pT (i := 5) (N := some 14) ?_
    refine pT (i := 6) (N := some 15) ?_
    refine pT (i := 7) (N := some 16) ?_
    refine pT (i := 8) (N := some 17) ?_
    refine tT (i := 9) (N := some 18) (v := ?_) hHeld.out ?_
    refine pT (i := 10) (N := some 19) ?_
    refine pT (i := 11) (N := some 6) ?_
    refine done_ (by kernel_rfl) ?_
    clear hHeld
    go_wp2
    go_meet
    case rel => exact ⟨rfl, rfl⟩
  case rest =>
  obtain ⟨rfl, rfl⟩ := hcut
  have hb0 : decide ((0 : Int) < ((0 : Nat) : Int)) = false := rfl
  go_wp2
  go_loopg [22] 1 (fun kq v22 w' => v22 = .int .i64 0 ∧ w' = w.drew)
  case atStart => exact ⟨rfl, rfl⟩
  case round =>
  obtain ⟨rfl, rfl⟩ := hrel
  go_wp2
  go_end0
  exact ⟨rfl, rfl⟩
theorem setF_none {x x0 w : Int} {D D' : List Int} : ∀ {k : Nat}, setF x x0 w [] k 0 D = some D' → D' = D
  | 0, h => by simp [setF] at h
  | k + 1, h => by
    rw [setF.eq_2, if_neg (by simp)] at h
    exact (Option.some.inj h).symm
theorem setColumn.hold {n : Nat} {w0 w : World} {l : List (Nat × Nat × Array Value)} {r : List (Value × List Int)} {i j M g t o k cc : Nat} {okc : Nat → Prop} {cs : Array Value} {x0 x1 x : Int} {v : Value} {E E' col : List Int} {A : Option Addr}
    (H : Hold n w0 w l r) (hb : l[i]? = some (g, t, cs)) (h0 : cs[o]? = some (.int .i64 x0)) (h2 : cs[o + 2]? = some (.int .i64 x1)) (h4 : cs[o + 4]? = some v) (hj : r[j]? = some (v, E)) (hc : Kd.R (Kd.int .i64) 3 w M okc (.slice A col.length cc) col) (hM : ∀ k, v.ownBlock = some k → k < M) (h : setF x x0 (wrap64 (x1 - x0)) col k 0 E = some E') :
    Calls Try.prog 63 #[.pointer (some ⟨g, o, none⟩), .int .i64 x, .slice A col.length cc] w fun e w' => e = .returned (.tuple #[]) ∧ Hold n w0 w' l (r.set j (v, E')) ∧ Kept w w' (fun k => v.ownBlock = some k) := by
  by_cases hp : 0 < E.length
  · obtain ⟨a, c, rfl, _⟩ := Kd.R_form (H.rowAt j hj) hp
    have hga : g ≠ a := fun e => H.rowNe hb hj (by rw [e]; rfl)
    refine (dwt_setColumn.good k g o a E.length c x0 x1 E E' x A cc col n M (fun k => some k = (Value.slice (some ⟨a, 0, none⟩) E.length c).ownBlock) w0 w ⟨H.cell i hb o h0, H.cell i hb (o + 2) h2, H.cell i hb (o + 4) h4⟩ hga (H.rowAt j hj) (Kd.R_mono (Kd.R_bound hc) (fun k hk => fun e => by have h1 := hM a rfl; have h2 := hk.2.1; omega)) H.below h).mono ?_
    rintro e w' ⟨rfl, hR, hK, hB⟩
    exact ⟨rfl, H.kept hj rfl hK hR hB, hK.mono (fun k hk => by rw [hk]; rfl)⟩
  · obtain rfl : E = [] := List.eq_nil_of_length_eq_zero (by omega)
    obtain rfl : col = [] := by
      cases k with
      | zero => simp [setF] at h
      | succ k =>
        rw [setF.eq_2] at h
        split at h
        · split at h
          · split at h
            · rename_i h3
              simp at h3
              omega
            · cases h
          · cases h
        · rename_i h3
          exact List.eq_nil_of_length_eq_zero (by omega)
    obtain rfl := setF_none h
    refine (setColumn_none g o x0 x1 x A cc w ⟨H.cell i hb o h0, H.cell i hb (o + 2) h2⟩).mono ?_
    rintro e w' ⟨rfl, rfl⟩
    refine ⟨rfl, ?_⟩
    have e1 : r.set j (v, []) = r := by
      obtain ⟨hlt, e⟩ := List.getElem?_eq_some_iff.mp hj
      rw [← e]
      exact List.set_getElem_self hlt
    rw [e1]
    exact ⟨H.drew, (Kept.refl w _).drew⟩
section
variable {α : Type} {r : List α} {i j m : Nat} {a b p : α}
theorem set2_other (h : r[m]? = some p) (h1 : i ≠ m) (h2 : j ≠ m) : ((r.set i a).set j b)[m]? = some p := by rw [List.getElem?_set_ne h2, List.getElem?_set_ne h1]; exact h
theorem set_self (h : r[i]? = some p) : (r.set i a)[i]? = some a := by
 obtain ⟨hl, _⟩ := List.getElem?_eq_some_iff.mp h
 rw [List.getElem?_set, if_pos rfl, if_pos hl]
theorem set2_fst (h : r[i]? = some p) (h1 : j ≠ i) : ((r.set i a).set j b)[i]? = some a := by rw [List.getElem?_set_ne h1]; exact set_self h
theorem set2_snd (h : r[j]? = some p) (h1 : i ≠ j) : ((r.set i a).set j b)[j]? = some b := set_self (p := p) (by rw [List.getElem?_set_ne h1]; exact h)
theorem set2_again (h1 : j ≠ i) (a' : α) : ((r.set i a).set j b).set i a' = (r.set i a').set j b := by
 rw [List.set_comm b a' h1, List.set_set]
theorem set2_snd_again (b' : α) : ((r.set i a).set j b).set j b' = (r.set i a).set j b' := List.set_set ..
theorem set_same (h : r[i]? = some a) : r.set i a = r := by
 obtain ⟨hl, e⟩ := List.getElem?_eq_some_iff.mp h
 rw [← e]
 exact List.set_getElem_self hl
end
/-- What the closure makes of the columns of a half, from the x-th on. -/
def colsF (kk : Int) (k : Nat) (x0 x1 y0 : Int) (D : List Int) : Nat → Int → List Int → List Int → Option (List Int × List Int)
 | 0, _, _, _ => none
 | f + 1, x, E1, E2 => if x < x1 then (colF (x1 - x0) D k (x - x0) []).bind fun col => if lift_bounded.f k col 281474976710656 = some true ∧ col.length ≤ 4096 then (fwdF kk k y0 col).bind fun p => (setF x x0 (wrap64 (x1 - x0)) p.1 k 0 E1).bind fun F1 => (setF x x0 (wrap64 (x1 - x0)) p.2 k 0 E2).bind fun F2 => colsF kk k x0 x1 y0 D f (x + 1) F1 F2 else none else some (E1, E2)
set_option maxHeartbeats 8000000 in
set_option maxRecDepth 100000 in
theorem dwt_Split1_0.good (k ks : Nat) (kk x0 y0 x1 y1 : Int) (A : Option Addr) (c : Nat) (D E1 E2 F1 F2 : List Int) (v1 v2 : Value) (n : Nat) (w0 w : World) (l : List (Nat × Nat × Array Value)) (r : List (Value × List Int)) (ih ir ik io gh gr gkn go jh j1 j2 : Nat) (hcs rcs ocs : Array Value)
  (H : Hold n w0 w l r) (hn : n = w0.heap.size)
  (lh : l[ih]? = some (gh, 78, hcs)) (hh : ∀ (j : Nat) (v : Value), (#[.int .i64 x0, .int .i64 y0, .int .i64 x1, .int .i64 y1, .slice A D.length c] : Array Value)[j]? = some v → hcs[0 + j]? = some v)
  (lr : l[ir]? = some (gr, 23, rcs)) (rc : rcs[1]? = some (.int .i64 y0)) (lk : l[ik]? = some (gkn, 28, #[.int .i64 kk])) (lo : l[io]? = some (go, 59, ocs))
  (o1 : ocs[0]? = some (.int .i64 x0) ∧ ocs[0+2]? = some (.int .i64 x1) ∧ ocs[0+4]? = some v1) (o2 : ocs[10]? = some (.int .i64 x0) ∧ ocs[10+2]? = some (.int .i64 x1) ∧ ocs[10+4]? = some v2)
  (rh : r[jh]? = some (.slice A D.length c, D)) (r1 : r[j1]? = some (v1, E1)) (r2 : r[j2]? = some (v2, E2)) (hj : j1 ≠ jh ∧ j2 ≠ jh ∧ j1 ≠ j2)
  (hv : PV x0 y0 x1 y1 D) (hk1 : 1 ≤ kk) (hk3 : kk ≤ 3) (h : colsF kk ks x0 x1 y0 D k x0 E1 E2 = some (F1, F2)) :
  Calls Try.prog 61 #[.int .i64 0, .pointer (some ⟨gh, 0, none⟩), .pointer (some ⟨gr, 0, none⟩), .pointer (some ⟨gkn, 0, none⟩), .pointer (some ⟨go, 0, none⟩)] w fun e w' => e = .returned (.int .i64 0) ∧ Hold n w0 w' l ((r.set j1 (v1, F1)).set j2 (v2, F2)) := by
 have HX := Aside0.mk h
 have HPV := Aside0.mk hv
 have HKK := Aside0.mk (And.intro hk1 hk3)
 have HJ := Aside0.mk hj
 have LH := Aside0.mk lh
 have HH := Aside0.mk hh
 have LR := Aside0.mk lr
 have RC := Aside0.mk rc
 have LK := Aside0.mk lk
 have LO := Aside0.mk lo
 have LO1 := Aside0.mk (fun X : Nat × Nat × Array Value => (show (X :: l)[io + 1]? = some (go, 59, ocs) from lo))
 have O1 := Aside0.mk o1
 have O2 := Aside0.mk o2
 have RH := Aside0.mk rh
 have R1 := Aside0.mk r1
 have R2 := Aside0.mk r2
 have HN := Aside0.mk hn
 have K0 := Aside0.mk H
 have HX01 := Aside0.mk hv.1
 have HY01 := Aside0.mk hv.2.1
 clear h hv hk1 hk3 hj lh hh lr rc lk lo o1 o2 rh r1 r2 H hn
 go_enter Try.func61, Try.ntmps61
 go_wp2_with (first
  | ((with_reducible refine gate_dst (N := 16) rfl ?_); refine load_mid_ev (cs := #[.int .i64 x0, .int .i64 y0, .int .i64 x1, .int .i64 y1, .slice A D.length c]) rfl 26 (.tmp 15) rfl rfl (K0.out.get ih LH.out) HH.out Try.underlying26 rfl rfl ?_)
  | ((with_reducible refine gate_dst (N := 7) rfl ?_); refine bT (N := 7) (#[.int .i64 0, .int .i64 0, .int .i64 0, .int .i64 0, .slice none 0 0]) 26 ?_; intro g7 hg W7 hbox hb; have K := Aside0.mk (K0.out.box (K0.out.size HN.out) hg hbox hb trivial); clear hg hbox hb K0)
  | ((with_reducible refine gate_store (t := 26) (p := 7) (v := .tmp 16) rfl ?_); refine store_ev rfl rfl 26 (.tmp 7) (.tmp 16) rfl rfl rfl (K.out.get 0 rfl) rfl rfl (by first | (kernel_rfl) | (simp [Value.oneCell'])) ?_; intro W8 hs; replace K := Aside0.mk (K.out.stored 0 rfl hs); clear hs; have f0 : W8.cell? ⟨g7, 0, none⟩ = some (.int .i64 x0) := K.out.cell 0 rfl 0 rfl))
 go_loopg [8] k (fun kq v8 w' => ∃ (x : Int) (E F : List Int), v8 = .int .i64 x ∧ Aside0 (x0 ≤ x) ∧ Aside0 (colsF kk ks x0 x1 y0 D kq x E F = some (F1, F2)) ∧ Aside0 (Hold n w0 w' ((g7, 26, #[.int .i64 x0, .int .i64 y0, .int .i64 x1, .int .i64 y1, .slice A D.length c]) :: l) ((r.set j1 (v1, E)).set j2 (v2, F))))
 case atStart => exact ⟨x0, E1, E2, rfl, ⟨Int.le_refl _⟩, HX, ⟨by rw [set_same R1.out, set_same R2.out]; exact K.out⟩⟩
 case round =>
 clear HX K f0
 obtain ⟨x, E, F, rfl, HX0, HX, K⟩ := hrel
 cases gk with
 | zero => exact absurd HX.out (by simp [colsF])
 | succ kq =>
 have hs := HX.out
 clear HX
 rw [colsF.eq_2] at hs
 have f2 : wr.cell? ⟨g7, 2, none⟩ = some (.int .i64 x1) := K.out.cell 0 rfl 2 rfl
 by_cases hi : x < x1
 rotate_left
 ·rw [if_neg hi] at hs
  have hb0 : decide (x < x1) = false := decide_eq_false hi
  have hs' := Option.some.inj hs
  obtain ⟨rfl, rfl⟩ := Prod.mk.inj hs'
  clear hs hs' hi
  go_wp2
  go_ret
  exact ⟨rfl, K.out.tl⟩
 rw [if_pos hi] at hs
 have hb0 : decide (x < x1) = true := decide_eq_true hi
 obtain ⟨col, hcol, hs⟩ := Option.bind_eq_some_iff.mp hs
 by_cases hbd : lift_bounded.f ks col 281474976710656 = some true ∧ col.length ≤ 4096
 rotate_left
 ·rw [if_neg hbd] at hs
  cases hs
 rw [if_pos hbd] at hs
 obtain ⟨⟨lo, hi_⟩, hfw, hs⟩ := Option.bind_eq_some_iff.mp hs
 obtain ⟨G1, hg1, hs⟩ := Option.bind_eq_some_iff.mp hs
 obtain ⟨G2, hg2, hs⟩ := Option.bind_eq_some_iff.mp hs
 have HX := Aside0.mk hs
 have HCOL := Aside0.mk hcol
 have HBD := Aside0.mk hbd
 have HFW := Aside0.mk hfw
 have HG1 := Aside0.mk hg1
 have HG2 := Aside0.mk hg2
 have HXI := Aside0.mk (And.intro HX0.out hi)
 have HV1 := Aside0.mk (fun k hk => Kd.R_lt (K.out.rowAt j1 (set2_fst R1.out (Ne.symm HJ.out.2.2))) k hk)
 have HV2 := Aside0.mk (fun k hk => Kd.R_lt (K.out.rowAt j2 (set2_snd R2.out HJ.out.2.2)) k hk)
 clear hs hcol hbd hfw hg1 hg2 hi HX0
 have hwx : wrap64 (x + 1) = x + 1 := by have := HXI.out; have := HX01.out; unfold wrap64; omega
 go_wp2_with (first
  | ((with_reducible refine gate_dst (N := 28) rfl ?_); refine load_ev rfl 26 (.tmp 7) rfl rfl (K.out.get 0 rfl) Try.underlying26 rfl ?_)
  | (go_at_call 62; (with_reducible refine (plane_Column.good ks x0 y0 x1 y1 A c D x col _ (K.out.readAt jh (set2_other RH.out HJ.out.1 HJ.out.2.1)).2.2 (K.out.readAt jh (set2_other RH.out HJ.out.1 HJ.out.2.1)).2.1 HPV.out HXI.out.1 HXI.out.2 HCOL.out).mono ?_); rintro _ w9 ⟨vc, rfl, hR, b⟩; obtain ⟨Ac, cc, rfl⟩ := Kd.R_slice hR; have HC := Aside0.mk hR; replace K := Aside0.mk (K.out.call (K.out.size HN.out) b); have HV1' := Aside0.mk (fun k hk => Nat.lt_of_lt_of_le (HV1.out k hk) b.size); have HV2' := Aside0.mk (fun k hk => Nat.lt_of_lt_of_le (HV2.out k hk) b.size); clear HV1 HV2; have HV1 := HV1'; have HV2 := HV2'; clear b hR f2 HV1' HV2'; have f1 : w9.cell? ⟨gr, 1, none⟩ = some (.int .i64 y0) := K.out.cell (ir + 1) LR.out 1 RC.out; have f3 : w9.cell? ⟨gkn, 0, none⟩ = some (.int .i64 kk) := K.out.cell (ik + 1) LK.out 0 rfl)
  | (go_at_call 59; (with_reducible refine (lift_Forward.good ks ks kk Ac cc col y0 lo hi_ _ (Kd.R_reads' HC.out).2.2 (Kd.R_reads' HC.out).2.1 HKK.out.1 HKK.out.2 HY01.out.1 (by have := HY01.out; omega) HBD.out.2 HBD.out.1 HFW.out).mono ?_); rintro _ wf ⟨u1, u2, rfl, hR1, hR2, b⟩; obtain ⟨Al, cl, rfl⟩ := Kd.R_slice hR1; obtain ⟨Ah, ch, rfl⟩ := Kd.R_slice hR2; have HL := Aside0.mk hR1; have HH2 := Aside0.mk hR2; replace K := Aside0.mk (K.out.call (K.out.size HN.out) b); clear b hR1 hR2 f1 f3)
  | (go_at_call 63; (with_reducible refine (setColumn.hold (o := 0) (i := io + 1) (j := j1) K.out (LO1.out _) O1.out.1 O1.out.2.1 O1.out.2.2 (set2_fst R1.out (Ne.symm HJ.out.2.2)) HL.out HV1.out HG1.out).mono ?_); rintro _ wg ⟨rfl, hH, hK⟩; have HH3 := Aside0.mk (Kd.R_kept (Kd.R_bound HH2.out) hK (fun k hk hv => by have h1 := HV1.out k hv; have h2 := hk.2.1; omega)); replace K := Aside0.mk ((set2_again (Ne.symm HJ.out.2.2) _) ▸ hH); clear HL HH2 hK hH)
  | (go_at_call 63; (with_reducible refine (setColumn.hold (o := 10) (i := io + 1) (j := j2) K.out (LO1.out _) O2.out.1 O2.out.2.1 O2.out.2.2 (set2_snd R2.out HJ.out.2.2) HH3.out HV2.out HG2.out).mono ?_); rintro _ wh ⟨rfl, hH, hK⟩; replace K := Aside0.mk ((set2_snd_again _) ▸ hH); clear HH3 hK hH))
 go_roundg kq
 case measure => omega
 case rel => exact ⟨x + 1, G1, G2, by rw [hwx], ⟨by have := HXI.out; omega⟩, HX, K⟩
set_option maxHeartbeats 8000000 in
set_option maxRecDepth 100000 in
theorem dwt_Split1_1.good (k ks : Nat) (kk x0 y0 x1 y1 : Int) (A : Option Addr) (c : Nat) (D E1 E2 F1 F2 : List Int) (v1 v2 : Value) (n : Nat) (w0 w : World) (l : List (Nat × Nat × Array Value)) (r : List (Value × List Int)) (ih ir ik io gh gr gkn go jh j1 j2 : Nat) (hcs rcs ocs : Array Value)
  (H : Hold n w0 w l r) (hn : n = w0.heap.size)
  (lh : l[ih]? = some (gh, 78, hcs)) (hh : ∀ (j : Nat) (v : Value), (#[.int .i64 x0, .int .i64 y0, .int .i64 x1, .int .i64 y1, .slice A D.length c] : Array Value)[j]? = some v → hcs[5 + j]? = some v)
  (lr : l[ir]? = some (gr, 23, rcs)) (rc : rcs[1]? = some (.int .i64 y0)) (lk : l[ik]? = some (gkn, 28, #[.int .i64 kk])) (lo : l[io]? = some (go, 59, ocs))
  (o1 : ocs[5]? = some (.int .i64 x0) ∧ ocs[5+2]? = some (.int .i64 x1) ∧ ocs[5+4]? = some v1) (o2 : ocs[15]? = some (.int .i64 x0) ∧ ocs[15+2]? = some (.int .i64 x1) ∧ ocs[15+4]? = some v2)
  (rh : r[jh]? = some (.slice A D.length c, D)) (r1 : r[j1]? = some (v1, E1)) (r2 : r[j2]? = some (v2, E2)) (hj : j1 ≠ jh ∧ j2 ≠ jh ∧ j1 ≠ j2)
  (hv : PV x0 y0 x1 y1 D) (hk1 : 1 ≤ kk) (hk3 : kk ≤ 3) (h : colsF kk ks x0 x1 y0 D k x0 E1 E2 = some (F1, F2)) :
  Calls Try.prog 61 #[.int .i64 1, .pointer (some ⟨gh, 0, none⟩), .pointer (some ⟨gr, 0, none⟩), .pointer (some ⟨gkn, 0, none⟩), .pointer (some ⟨go, 0, none⟩)] w fun e w' => e = .returned (.int .i64 0) ∧ Hold n w0 w' l ((r.set j1 (v1, F1)).set j2 (v2, F2)) := by
 have HX := Aside0.mk h
 have HPV := Aside0.mk hv
 have HKK := Aside0.mk (And.intro hk1 hk3)
 have HJ := Aside0.mk hj
 have LH := Aside0.mk lh
 have HH := Aside0.mk hh
 have LR := Aside0.mk lr
 have RC := Aside0.mk rc
 have LK := Aside0.mk lk
 have LO := Aside0.mk lo
 have LO1 := Aside0.mk (fun X : Nat × Nat × Array Value => (show (X :: l)[io + 1]? = some (go, 59, ocs) from lo))
 have O1 := Aside0.mk o1
 have O2 := Aside0.mk o2
 have RH := Aside0.mk rh
 have R1 := Aside0.mk r1
 have R2 := Aside0.mk r2
 have HN := Aside0.mk hn
 have K0 := Aside0.mk H
 have HX01 := Aside0.mk hv.1
 have HY01 := Aside0.mk hv.2.1
 clear h hv hk1 hk3 hj lh hh lr rc lk lo o1 o2 rh r1 r2 H hn
 go_enter Try.func61, Try.ntmps61
 go_wp2_with (first
  | ((with_reducible refine gate_dst (N := 16) rfl ?_); refine load_mid_ev (cs := #[.int .i64 x0, .int .i64 y0, .int .i64 x1, .int .i64 y1, .slice A D.length c]) rfl 26 (.tmp 15) rfl rfl (K0.out.get ih LH.out) HH.out Try.underlying26 rfl rfl ?_)
  | ((with_reducible refine gate_dst (N := 7) rfl ?_); refine bT (N := 7) (#[.int .i64 0, .int .i64 0, .int .i64 0, .int .i64 0, .slice none 0 0]) 26 ?_; intro g7 hg W7 hbox hb; have K := Aside0.mk (K0.out.box (K0.out.size HN.out) hg hbox hb trivial); clear hg hbox hb K0)
  | ((with_reducible refine gate_store (t := 26) (p := 7) (v := .tmp 16) rfl ?_); refine store_ev rfl rfl 26 (.tmp 7) (.tmp 16) rfl rfl rfl (K.out.get 0 rfl) rfl rfl (by first | (kernel_rfl) | (simp [Value.oneCell'])) ?_; intro W8 hs; replace K := Aside0.mk (K.out.stored 0 rfl hs); clear hs; have f0 : W8.cell? ⟨g7, 0, none⟩ = some (.int .i64 x0) := K.out.cell 0 rfl 0 rfl))
 go_loopg [8] k (fun kq v8 w' => ∃ (x : Int) (E F : List Int), v8 = .int .i64 x ∧ Aside0 (x0 ≤ x) ∧ Aside0 (colsF kk ks x0 x1 y0 D kq x E F = some (F1, F2)) ∧ Aside0 (Hold n w0 w' ((g7, 26, #[.int .i64 x0, .int .i64 y0, .int .i64 x1, .int .i64 y1, .slice A D.length c]) :: l) ((r.set j1 (v1, E)).set j2 (v2, F))))
 case atStart => exact ⟨x0, E1, E2, rfl, ⟨Int.le_refl _⟩, HX, ⟨by rw [set_same R1.out, set_same R2.out]; exact K.out⟩⟩
 case round =>
 clear HX K f0
 obtain ⟨x, E, F, rfl, HX0, HX, K⟩ := hrel
 cases gk with
 | zero => exact absurd HX.out (by simp [colsF])
 | succ kq =>
 have hs := HX.out
 clear HX
 rw [colsF.eq_2] at hs
 have f2 : wr.cell? ⟨g7, 2, none⟩ = some (.int .i64 x1) := K.out.cell 0 rfl 2 rfl
 by_cases hi : x < x1
 rotate_left
 ·rw [if_neg hi] at hs
  have hb0 : decide (x < x1) = false := decide_eq_false hi
  have hs' := Option.some.inj hs
  obtain ⟨rfl, rfl⟩ := Prod.mk.inj hs'
  clear hs hs' hi
  go_wp2
  go_ret
  exact ⟨rfl, K.out.tl⟩
 rw [if_pos hi] at hs
 have hb0 : decide (x < x1) = true := decide_eq_true hi
 obtain ⟨col, hcol, hs⟩ := Option.bind_eq_some_iff.mp hs
 by_cases hbd : lift_bounded.f ks col 281474976710656 = some true ∧ col.length ≤ 4096
 rotate_left
 ·rw [if_neg hbd] at hs
  cases hs
 rw [if_pos hbd] at hs
 obtain ⟨⟨lo, hi_⟩, hfw, hs⟩ := Option.bind_eq_some_iff.mp hs
 obtain ⟨G1, hg1, hs⟩ := Option.bind_eq_some_iff.mp hs
 obtain ⟨G2, hg2, hs⟩ := Option.bind_eq_some_iff.mp hs
 have HX := Aside0.mk hs
 have HCOL := Aside0.mk hcol
 have HBD := Aside0.mk hbd
 have HFW := Aside0.mk hfw
 have HG1 := Aside0.mk hg1
 have HG2 := Aside0.mk hg2
 have HXI := Aside0.mk (And.intro HX0.out hi)
 have HV1 := Aside0.mk (fun k hk => Kd.R_lt (K.out.rowAt j1 (set2_fst R1.out (Ne.symm HJ.out.2.2))) k hk)
 have HV2 := Aside0.mk (fun k hk => Kd.R_lt (K.out.rowAt j2 (set2_snd R2.out HJ.out.2.2)) k hk)
 clear hs hcol hbd hfw hg1 hg2 hi HX0
 have hwx : wrap64 (x + 1) = x + 1 := by have := HXI.out; have := HX01.out; unfold wrap64; omega
 go_wp2_with (first
  | ((with_reducible refine gate_dst (N := 28) rfl ?_); refine load_ev rfl 26 (.tmp 7) rfl rfl (K.out.get 0 rfl) Try.underlying26 rfl ?_)
  | (go_at_call 62; (with_reducible refine (plane_Column.good ks x0 y0 x1 y1 A c D x col _ (K.out.readAt jh (set2_other RH.out HJ.out.1 HJ.out.2.1)).2.2 (K.out.readAt jh (set2_other RH.out HJ.out.1 HJ.out.2.1)).2.1 HPV.out HXI.out.1 HXI.out.2 HCOL.out).mono ?_); rintro _ w9 ⟨vc, rfl, hR, b⟩; obtain ⟨Ac, cc, rfl⟩ := Kd.R_slice hR; have HC := Aside0.mk hR; replace K := Aside0.mk (K.out.call (K.out.size HN.out) b); have HV1' := Aside0.mk (fun k hk => Nat.lt_of_lt_of_le (HV1.out k hk) b.size); have HV2' := Aside0.mk (fun k hk => Nat.lt_of_lt_of_le (HV2.out k hk) b.size); clear HV1 HV2; have HV1 := HV1'; have HV2 := HV2'; clear b hR f2 HV1' HV2'; have f1 : w9.cell? ⟨gr, 1, none⟩ = some (.int .i64 y0) := K.out.cell (ir + 1) LR.out 1 RC.out; have f3 : w9.cell? ⟨gkn, 0, none⟩ = some (.int .i64 kk) := K.out.cell (ik + 1) LK.out 0 rfl)
  | (go_at_call 59; (with_reducible refine (lift_Forward.good ks ks kk Ac cc col y0 lo hi_ _ (Kd.R_reads' HC.out).2.2 (Kd.R_reads' HC.out).2.1 HKK.out.1 HKK.out.2 HY01.out.1 (by have := HY01.out; omega) HBD.out.2 HBD.out.1 HFW.out).mono ?_); rintro _ wf ⟨u1, u2, rfl, hR1, hR2, b⟩; obtain ⟨Al, cl, rfl⟩ := Kd.R_slice hR1; obtain ⟨Ah, ch, rfl⟩ := Kd.R_slice hR2; have HL := Aside0.mk hR1; have HH2 := Aside0.mk hR2; replace K := Aside0.mk (K.out.call (K.out.size HN.out) b); clear b hR1 hR2 f1 f3)
  | (go_at_call 63; (with_reducible refine (setColumn.hold (o := 5) (i := io + 1) (j := j1) K.out (LO1.out _) O1.out.1 O1.out.2.1 O1.out.2.2 (set2_fst R1.out (Ne.symm HJ.out.2.2)) HL.out HV1.out HG1.out).mono ?_); rintro _ wg ⟨rfl, hH, hK⟩; have HH3 := Aside0.mk (Kd.R_kept (Kd.R_bound HH2.out) hK (fun k hk hv => by have h1 := HV1.out k hv; have h2 := hk.2.1; omega)); replace K := Aside0.mk ((set2_again (Ne.symm HJ.out.2.2) _) ▸ hH); clear HL HH2 hK hH)
  | (go_at_call 63; (with_reducible refine (setColumn.hold (o := 15) (i := io + 1) (j := j2) K.out (LO1.out _) O2.out.1 O2.out.2.1 O2.out.2.2 (set2_snd R2.out HJ.out.2.2) HH3.out HV2.out HG2.out).mono ?_); rintro _ wh ⟨rfl, hH, hK⟩; replace K := Aside0.mk ((set2_snd_again _) ▸ hH); clear HH3 hK hH))
 go_roundg kq
 case measure => omega
 case rel => exact ⟨x + 1, G1, G2, by rw [hwx], ⟨by have := HXI.out; omega⟩, HX, K⟩
end Go.Proofs.Ytcnpekpgghppnaa.Q
namespace Go.Proofs.Ytcnpekpgghppnaa.Q
open Go.RowKit Go.Proofs.YtcnpekpgghppnaaW.PrintWords Go.Proofs.YtcnpekpgghppnaaW.PrintLast Go.Proofs.YtcnpekpgghppnaaW.PrintMore
attribute [local go_sem] max2_int min2_int max_two min_two max_three min_three max_four min_four
set_option linter.unusedVariables false
set_option linter.unusedSimpArgs false
def lift_Margin.j0 : Nat → Int → Bool → Option (Int)
 | 0, _, _ => none
 | k + 1, x3, x4 => if x4 = true then (some 2) else (if x3 = 3 then (some 4) else (some 0))
def lift_Margin.f (k : Nat) (a0 : Int) : Option (Int) := if a0 = 1 then (lift_Margin.j0 k a0 (a0 == 1)) else (lift_Margin.j0 k a0 (a0 == 2))
set_option maxHeartbeats 8000000 in
set_option maxRecDepth 100000 in
theorem lift_Margin.calls (k : Nat) (a0 : Int) (r : Int) (w : World) (h : lift_Margin.f k a0 = some r) :
  Calls Try.prog 26 #[.int .i64 a0] w fun e w' => e = .returned (.int .i64 r) ∧ Drawn0 w w' := by
 have H : (if a0 = 1 then (lift_Margin.j0 k a0 (a0 == 1)) else (lift_Margin.j0 k a0 (a0 == 2))) = some r := h
 clear h
 have HC2 := Aside0.mk H
 clear H
 go_enter Try.func26, Try.ntmps26
 go_upto_if 4 with (fail)
 go_cut [4] (fun v4 wc => ∃ (kq : Nat) (x4_1 : Bool), v4 = .bool x4_1 ∧ Aside0 (lift_Margin.j0 kq a0 x4_1 = some r) ∧ Aside0 (kq ≤ k) ∧ Drawn0 w wc)
 case first =>
  have H := HC2.out
  clear HC2
  by_cases c3 : a0 = 1
  ·rw [if_pos c3] at H
   have c3b0 : (a0 == 1) = true := beq_iff_eq.mpr c3
   have c3b1 : (a0 != 1) = false := bne_eq_false_iff_eq.mpr c3
   clear c3
   (first | rw [c3b0] | (simp only [i64_w, i32_w]; rw [c3b0]) | skip)
   have H' := Aside0.mk H
   clear H
   go_wp2
   go_meet
   case rel => exact ⟨_, ((a0 == 1)), (by first | rfl | (simp; done) | (simp [*]; done)), H', ⟨by first | omega | exact Nat.le_refl _⟩, by repeat (first | exact Drawn0.refl _ | apply Drawn0.step)⟩
  ·rw [if_neg c3] at H
   have c3b0 : (a0 == 1) = false := beq_eq_false_iff_ne.mpr c3
   have c3b1 : (a0 != 1) = true := bne_iff_ne.mpr c3
   (first | rw [c3b0] | (simp only [i64_w, i32_w]; rw [c3b0]) | skip)
   have H' := Aside0.mk H
   clear H
   go_wp2
   go_meet
   case rel => exact ⟨_, ((a0 == 2)), (by first | rfl | (simp; done) | (simp [*]; done)), H', ⟨by first | omega | exact Nat.le_refl _⟩, by repeat (first | exact Drawn0.refl _ | apply Drawn0.step)⟩
 case rest =>
  clear HC2
  try clear c2
  try clear p2
  try clear c3
  try clear c3b0
  try clear c3b1
  obtain ⟨kq, x4_1, rfl, HA, HJ1, ⟨mc1, rfl⟩⟩ := hcut
  cases kq with
  | zero => exact absurd HA.out (by simp [lift_Margin.j0])
  | succ kj1 =>
   have H := HA.out
   clear HA
   simp only [lift_Margin.j0] at H
   by_cases c4 : x4_1 = true
   ·subst c4
    have H1 : (some 2) = some r := by rw [if_pos rfl] at H; exact H
    clear H
    have H := H1
    clear H1
    obtain rfl := Option.some.inj H
    go_wp2
    go_ret
    exact ⟨by first | rfl | (simp; done) | (simp [*]; done), by repeat (first | exact Drawn0.refl _ | apply Drawn0.step)⟩
   ·replace c4 := Bool.eq_false_iff.mpr c4
    subst c4
    have H1 : (if a0 = 3 then (some 4) else (some 0)) = some r := by rw [if_neg (show ¬ (false = true) by decide)] at H; exact H
    clear H
    have H := H1
    clear H1
    by_cases c5 : a0 = 3
    ·rw [if_pos c5] at H
     have c5b0 : (a0 == 3) = true := beq_iff_eq.mpr c5
     have c5b1 : (a0 != 3) = false := bne_eq_false_iff_eq.mpr c5
     clear c5
     obtain rfl := Option.some.inj H
     go_wp2
     go_ret
     exact ⟨by first | rfl | (simp; done) | (simp [*]; done), by repeat (first | exact Drawn0.refl _ | apply Drawn0.step)⟩
    ·rw [if_neg c5] at H
     have c5b0 : (a0 == 3) = false := beq_eq_false_iff_ne.mpr c5
     have c5b1 : (a0 != 3) = true := bne_iff_ne.mpr c5
     obtain rfl := Option.some.inj H
     go_wp2
     go_ret
     exact ⟨by first | rfl | (simp; done) | (simp [*]; done), by repeat (first | exact Drawn0.refl _ | apply Drawn0.step)⟩
end Go.Proofs.Ytcnpekpgghppnaa.Q
namespace Go.Proofs.Ytcnpekpgghppnaa.Q
open Go.RowKit Go.Proofs.YtcnpekpgghppnaaW.PrintWords Go.Proofs.YtcnpekpgghppnaaW.PrintLast Go.Proofs.YtcnpekpgghppnaaW.PrintMore
attribute [local go_sem] max2_int min2_int max_two min_two max_three min_three max_four min_four
set_option linter.unusedVariables false
set_option linter.unusedSimpArgs false
def dwt_known.f (k : Nat) (a0 : Int) : Option (Bool) := (lift_Margin.f k a0).bind fun t119 => (some (decide (t119 > 0)))
set_option maxHeartbeats 8000000 in
set_option maxRecDepth 100000 in
theorem dwt_known.calls (k : Nat) (a0 : Int) (r : Bool) (w : World) (h : dwt_known.f k a0 = some r) :
  Calls Try.prog 56 #[.int .i64 a0] w fun e w' => e = .returned (.bool r) ∧ Drawn0 w w' := by
 have H : ((lift_Margin.f k a0).bind fun t119 => (some (decide (t119 > 0)))) = some r := h
 clear h
 replace H := Option.bind_eq_some_iff.mp H
 obtain ⟨t119, A20, H⟩ := H
 replace H : (some (decide (t119 > 0))) = some r := H
 have A2 := Aside0.mk A20
 clear A20
 obtain rfl := Option.some.inj H
 go_enter Try.func56, Try.ntmps56
 go_wp2_with (first | ((with_reducible refine gate_callee (f := 26) rfl ?_); refine goesL_ (some 4) rfl rfl Try.func26 (by kernel_rfl) rfl #[.int .i64 a0] rfl (by (try simp only [List.map_toArray, List.map_cons, List.map_nil]); first | done | rfl | (simp only [List.length_drop, List.length_take]; rfl)) ?_; (with_reducible refine (lift_Margin.calls k a0 t119 _ A2.out).mono ?_); rintro e w' ⟨rfl, ⟨nd, rfl⟩⟩; refine ⟨_, rfl, ?_⟩))
 go_ret
 exact ⟨by first | rfl | (simp; done) | (simp [*]; done), by repeat (first | exact Drawn0.refl _ | apply Drawn0.step)⟩
end Go.Proofs.Ytcnpekpgghppnaa.Q
namespace Go.Proofs.Ytcnpekpgghppnaa.Q
open Go.RowKit Go.Proofs.YtcnpekpgghppnaaW.PrintWords Go.Proofs.YtcnpekpgghppnaaW.PrintLast Go.Proofs.YtcnpekpgghppnaaW.PrintMore
attribute [local go_sem] max2_int min2_int max_two min_two max_three min_three max_four min_four
set_option linter.unusedVariables false
set_option linter.unusedSimpArgs false
def dwt_exceeds.l0 : Nat → Int → List Int → Int → Int → Option (Bool)
 | 0, _, _, _, _ => none
 | k + 1, x1, x7, x8, x9 => if x9 < x8 then (if 0 ≤ x9 then (if x9 < (x7.length : Int) then (if (rd x7 x9) > x1 then (some true) else (if (rd x7 x9) < (wrap64 (-x1)) then (some true) else (dwt_exceeds.l0 k x1 x7 x8 (wrap64 (x9 + 1))))) else (none)) else (none)) else (some false)
def dwt_exceeds.f (k : Nat) (l0 : List Int) (a1 : Int) : Option (Bool) := dwt_exceeds.l0 k a1 l0 (l0.length : Int) 0
set_option maxHeartbeats 8000000 in
set_option maxRecDepth 100000 in
theorem dwt_exceeds.calls (k : Nat) (A0 : Option Addr) (c0 : Nat) (l0 : List Int) (a1 : Int) (r : Bool) (w : World) (hr0 : Kd.C (Kd.int .i64) w A0 l0.length l0) (hc0 : l0.length ≤ c0) (h : dwt_exceeds.f k l0 a1 = some r) :
  Calls Try.prog 57 #[.slice A0 l0.length c0, .int .i64 a1] w fun e w' => e = .returned (.bool r) ∧ Drawn0 w w' := by
 have HR0 := Aside0.mk hr0
 have HC0 := Aside0.mk hc0
 clear hr0 hc0
 have H : (dwt_exceeds.l0 k a1 l0 (l0.length : Int) 0) = some r := h
 clear h
 have H' := Aside0.mk H
 clear H
 go_enter Try.func57, Try.ntmps57
 go_wp2
 go_loopg [9] k (fun kq v9 w' => ∃ (x9_1 : Int), v9 = .int .i64 x9_1 ∧ Aside0 (dwt_exceeds.l0 kq a1 l0 (l0.length : Int) x9_1 = some r) ∧ Aside0 (kq ≤ k) ∧ Drawn0 w w')
 case atStart => exact ⟨(0), (by first | rfl | (simp; done) | (simp [*]; done)), H', ⟨Nat.le_refl _⟩, by repeat (first | exact Drawn0.refl _ | apply Drawn0.step)⟩
 case round =>
  clear H'
  try clear p2
  obtain ⟨x9_1, rfl, HA, HK1, ⟨m1, rfl⟩⟩ := hrel
  cases gk with
  | zero => exact absurd HA.out (by simp [dwt_exceeds.l0])
  | succ k1 =>
   have H := HA.out
   clear HA
   simp only [dwt_exceeds.l0] at H
   by_cases c3 : x9_1 < (l0.length : Int)
   ·rw [if_pos c3] at H
    have c3b0 : decide (x9_1 < (l0.length : Int)) = true := decide_eq_true c3
    clear c3
    by_cases c4 : 0 ≤ x9_1
    ·rw [if_pos c4] at H
     have c4b0 : decide (0 ≤ x9_1) = true := decide_eq_true c4
     clear c4
     by_cases c5 : x9_1 < (l0.length : Int)
     ·rw [if_pos c5] at H
      have c5b0 : decide (x9_1 < (l0.length : Int)) = true := decide_eq_true c5
      clear c5
      by_cases c6 : (rd l0 x9_1) > a1
      ·rw [if_pos c6] at H
       have c6b0 : decide (a1 < (rd l0 x9_1)) = true := decide_eq_true c6
       clear c6
       obtain rfl := Option.some.inj H
       have p120 : 0 ≤ (x9_1 : Int) := of_decide_eq_true (by first | (with_reducible assumption) | assumption)
       have q120 : x9_1 < (l0.length : Int) := of_decide_eq_true (by first | (with_reducible assumption) | assumption)
       obtain ⟨ad120, e120, hx120_0⟩ := Kd.at_int HR0.out x9_1 p120 q120
       cases e120
       replace p120 := eq_true p120
       replace q120 := eq_true q120
       go_wp2
       go_ret
       exact ⟨by first | rfl | (simp; done) | (simp [*]; done), by repeat (first | exact Drawn0.refl _ | apply Drawn0.step)⟩
      ·rw [if_neg c6] at H
       have c6b0 : decide (a1 < (rd l0 x9_1)) = false := decide_eq_false c6
       clear c6
       by_cases c7 : (rd l0 x9_1) < (wrap64 (-a1))
       ·rw [if_pos c7] at H
        have c7b0 : decide ((rd l0 x9_1) < (wrap64 (-a1))) = true := decide_eq_true c7
        clear c7
        obtain rfl := Option.some.inj H
        have p120 : 0 ≤ (x9_1 : Int) := of_decide_eq_true (by first | (with_reducible assumption) | assumption)
        have q120 : x9_1 < (l0.length : Int) := of_decide_eq_true (by first | (with_reducible assumption) | assumption)
        obtain ⟨ad120, e120, hx120_0⟩ := Kd.at_int HR0.out x9_1 p120 q120
        cases e120
        replace p120 := eq_true p120
        replace q120 := eq_true q120
        go_wp2
        go_ret
        exact ⟨by first | rfl | (simp; done) | (simp [*]; done), by repeat (first | exact Drawn0.refl _ | apply Drawn0.step)⟩
       ·rw [if_neg c7] at H
        have c7b0 : decide ((rd l0 x9_1) < (wrap64 (-a1))) = false := decide_eq_false c7
        clear c7
        have H' := Aside0.mk H
        clear H
        have p120 : 0 ≤ (x9_1 : Int) := of_decide_eq_true (by first | (with_reducible assumption) | assumption)
        have q120 : x9_1 < (l0.length : Int) := of_decide_eq_true (by first | (with_reducible assumption) | assumption)
        obtain ⟨ad120, e120, hx120_0⟩ := Kd.at_int HR0.out x9_1 p120 q120
        cases e120
        replace p120 := eq_true p120
        replace q120 := eq_true q120
        go_wp2
        go_roundg k1
        case measure => have := HK1.out; omega
        case rel => exact ⟨(wrap64 (x9_1 + 1)), (by first | rfl | (simp; done) | (simp [*]; done)), H', ⟨by have := HK1.out; omega⟩, by repeat (first | exact Drawn0.refl _ | apply Drawn0.step)⟩
     ·rw [if_neg c5] at H
      exact absurd H (by simp)
    ·rw [if_neg c4] at H
     exact absurd H (by simp)
   ·rw [if_neg c3] at H
    have c3b0 : decide (x9_1 < (l0.length : Int)) = false := decide_eq_false c3
    clear c3
    obtain rfl := Option.some.inj H
    go_wp2
    go_ret
    exact ⟨by first | rfl | (simp; done) | (simp [*]; done), by repeat (first | exact Drawn0.refl _ | apply Drawn0.step)⟩
end Go.Proofs.Ytcnpekpgghppnaa.Q
namespace Go.Proofs.Ytcnpekpgghppnaa.Q
open Go.RowKit Go.Proofs.YtcnpekpgghppnaaW.PrintWords Go.Proofs.YtcnpekpgghppnaaW.PrintLast Go.Proofs.YtcnpekpgghppnaaW.PrintMore
attribute [local go_sem] max2_int min2_int max_two min_two max_three min_three max_four min_four
set_option linter.unusedVariables false
set_option linter.unusedSimpArgs false
def dwt_empty.f (a0_0 : Int) (a0_1 : Int) (a0_2 : Int) (a0_3 : Int) : Option (Int × Int × Int × Int × List Int) := (rect_Area.f a0_0 a0_1 a0_2 a0_3).bind fun t154 => (if 0 ≤ t154 then (if (t154 : Int).toNat ≤ 35184372088832 then (some (a0_0, a0_1, a0_2, a0_3, (List.replicate (t154 : Int).toNat 0))) else (none)) else (none))
set_option maxHeartbeats 8000000 in
set_option maxRecDepth 100000 in
theorem dwt_empty.calls (a0_0 : Int) (a0_1 : Int) (a0_2 : Int) (a0_3 : Int) (r1 : Int) (r2 : Int) (r3 : Int) (r4 : Int) (r5 : List Int) (w : World) (h : dwt_empty.f a0_0 a0_1 a0_2 a0_3 = some (r1, r2, r3, r4, r5)) :
  Calls Try.prog 60 #[.agg #[.int .i64 a0_0, .int .i64 a0_1, .int .i64 a0_2, .int .i64 a0_3]] w fun e w' => ∃ v4_ : Value, e = .returned (.agg #[.int .i64 r1, .int .i64 r2, .int .i64 r3, .int .i64 r4, v4_]) ∧ Kd.R (Kd.int .i64) 3 w' w.heap.size (fun _ => True) v4_ r5 ∧ Below w.heap.size w w' := by
 have hu23 := Try.underlying23
 have hu26 := Try.underlying26
 have HB := Aside0.mk (Below.refl w.heap.size w)
 have H : ((rect_Area.f a0_0 a0_1 a0_2 a0_3).bind fun t154 => (if 0 ≤ t154 then (if (t154 : Int).toNat ≤ 35184372088832 then (some (a0_0, a0_1, a0_2, a0_3, (List.replicate (t154 : Int).toNat 0))) else (none)) else (none))) = some (r1, r2, r3, r4, r5) := h
 clear h
 replace H := Option.bind_eq_some_iff.mp H
 obtain ⟨t154, A20, H⟩ := H
 replace H : (if 0 ≤ t154 then (if (t154 : Int).toNat ≤ 35184372088832 then (some (a0_0, a0_1, a0_2, a0_3, (List.replicate (t154 : Int).toNat 0))) else (none)) else (none)) = some (r1, r2, r3, r4, r5) := H
 have A2 := Aside0.mk A20
 clear A20
 by_cases c3 : 0 ≤ t154
 ·rw [if_pos c3] at H
  have c3b0 := eq_true c3
  have c3b1 : decide (0 ≤ t154) = true := decide_eq_true c3
  clear c3
  by_cases c4 : (t154 : Int).toNat ≤ 35184372088832
  ·rw [if_pos c4] at H
   have c4b0 := eq_true c4
   have c4b1 : decide ((t154 : Int).toNat ≤ 35184372088832) = true := decide_eq_true c4
   clear c4
   obtain ⟨y155, hy155⟩ : ∃ y_ : List Int, y_ = (List.replicate (t154 : Int).toNat 0) := ⟨_, rfl⟩
   replace H : (some (a0_0, a0_1, a0_2, a0_3, y155)) = some (r1, r2, r3, r4, r5) := by first | (rw [hy155]; with_reducible exact H) | (have H2_ := (Option.bind_some _ _).symm.trans H; rw [hy155]; with_reducible exact H2_) | (have H2_ := (Option.bind_some _ _).symm.trans H; with_reducible exact H2_) | with_reducible exact H | (rw [hy155]; exact H) | exact H
   have Ny155 := Aside0.mk hy155
   clear hy155
   simp only [Option.some.injEq, Prod.mk.injEq] at H
   obtain ⟨rfl, rfl, rfl, rfl, rfl⟩ := H
   go_enter Try.func60, Try.ntmps60
   try go_wp2_with (first | ((with_reducible refine gate_dst (N := 1) rfl ?_); refine bT (N := 1) (#[.int .i64 a0_0, .int .i64 a0_1, .int .i64 a0_2, .int .i64 a0_3]) 23 ?_; intro gb152 hg w5 hbox hb; have n0_ := Aside0.mk (below_step (by repeat (first | (with_reducible first | exact HB.out | apply below_alloc | apply pw_below_drewN | apply below_drew1) | exact HB.out)) hb); have n1_ := Aside0.mk (hbox); have n2_ := Aside0.mk ((by rw [hg]; exact (below_size (by repeat (first | (with_reducible first | exact HB.out | apply below_alloc | apply pw_below_drewN | apply below_drew1) | exact HB.out))) : w.heap.size ≤ gb152)); have n3_ := Aside0.mk ((by rw [hg]; exact (below_size (by repeat (first | (with_reducible first | exact HB.out | apply below_alloc | apply pw_below_drewN | apply below_drew1) | exact HB.out))) : w.heap.size ≤ gb152)); clear HB; have HB := n0_; have BK152 := n1_; have GW152 := n2_; have GE152 := n3_; clear n0_ n1_ n2_ n3_; clear hb hbox hg) | ((with_reducible refine gate_dst (N := 2) rfl ?_); refine bT (N := 2) (#[.int .i64 0, .int .i64 0, .int .i64 0, .int .i64 0, .slice none 0 0]) 26 ?_; intro gb153 hg w6 hbox hb; have n0_ := Aside0.mk (blk_below (g := gb152) (o := .cells #[.int .i64 a0_0, .int .i64 a0_1, .int .i64 a0_2, .int .i64 a0_3] 23 (0, 0)) (by exact upK BK152.out) hb); have n1_ := Aside0.mk (below_step (by repeat (first | (with_reducible first | exact HB.out | apply below_alloc | apply pw_below_drewN | apply below_drew1 | refine below_set ?_ GE152.out) | exact HB.out)) hb); have n2_ := Aside0.mk (hbox); have n3_ := Aside0.mk ((by rw [hg]; exact (below_size (by repeat (first | (with_reducible first | exact HB.out | apply below_alloc | apply pw_below_drewN | apply below_drew1 | refine below_set ?_ GE152.out) | exact HB.out))) : w.heap.size ≤ gb153)); have n4_ := Aside0.mk ((by rw [hg]; exact (below_size (by repeat (first | (with_reducible first | exact HB.out | apply below_alloc | apply pw_below_drewN | apply below_drew1 | refine below_set ?_ GE152.out) | exact HB.out))) : w.heap.size ≤ gb153)); have n5_ := Aside0.mk ((by rw [hg]; exact Nat.ne_of_lt (blk_lt (g := gb152) (o := .cells #[.int .i64 a0_0, .int .i64 a0_1, .int .i64 a0_2, .int .i64 a0_3] 23 (0, 0)) (by exact upK BK152.out)) : gb152 ≠ gb153)); have n6_ := Aside0.mk ((by rw [hg]; exact Nat.ne_of_gt (blk_lt (g := gb152) (o := .cells #[.int .i64 a0_0, .int .i64 a0_1, .int .i64 a0_2, .int .i64 a0_3] 23 (0, 0)) (by exact upK BK152.out)) : gb153 ≠ gb152)); clear BK152; clear HB; have BK152 := n0_; have HB := n1_; have BK153 := n2_; have GW153 := n3_; have GE153 := n4_; have NB152_153 := n5_; have NB153_152 := n6_; clear n0_ n1_ n2_ n3_ n4_ n5_ n6_; clear hb hbox hg))
   have n0_ := Aside0.mk (blk_drew BK152.out)
   have n1_ := Aside0.mk (blk_drew BK153.out)
   have n2_ := Aside0.mk (below_drew1 HB.out)
   clear BK152
   clear BK153
   clear HB
   have BK152 := n0_
   have BK153 := n1_
   have HB := n2_
   clear n0_ n1_ n2_
   refine start_ (n := 6) (S := fun w' => w'.cell? ⟨gb152, 0, none⟩ = some (.int .i64 a0_0) ∧ w'.cell? ⟨gb152, 1, none⟩ = some (.int .i64 a0_1) ∧ w'.cell? ⟨gb152, 2, none⟩ = some (.int .i64 a0_2) ∧ w'.cell? ⟨gb152, 3, none⟩ = some (.int .i64 a0_3)) (ds := []) #[false, false, false, false, false, false] (by kernel_rfl) rfl rfl ⟨(blk_cell BK152.out 0).trans rfl, (blk_cell BK152.out 1).trans rfl, (blk_cell BK152.out 2).trans rfl, (blk_cell BK152.out 3).trans rfl⟩ (fun hHeld => ?_)
   generalize w6.drew = w7 at BK152 BK153 HB hHeld ⊢
   refine tT (i := 0) (N := some 3) (v := ?_) hHeld ?_
   refine tT (i := 1) (N := some 4) (v := ?_) hHeld ?_
   refine one_ (i := 2) (N := some 5) #[true, true, true, false, false, false] rfl rfl (by kernel_rfl) (by decide) (fun K hK => ?_)
   refine goes_ Try.func36 (by kernel_rfl) rfl #[.agg #[.int .i64 a0_0, .int .i64 a0_1, .int .i64 a0_2, .int .i64 a0_3]] (by rfl) rfl rfl (by (try simp only [List.map_toArray, List.map_cons, List.map_nil]); first | done | rfl | (simp only [List.length_drop, List.length_take]; rfl)) ?_
   with_reducible refine (rect_Area.calls a0_0 a0_1 a0_2 a0_3 t154 _ A2.out).mono ?_
   rintro e w8 ⟨rfl, hb⟩
   refine ⟨_, rfl, ?_⟩
   have n0_ := Aside0.mk (blk_below (g := gb152) (o := .cells #[.int .i64 a0_0, .int .i64 a0_1, .int .i64 a0_2, .int .i64 a0_3] 23 (0, 0)) (by exact upK BK152.out) hb)
   have n1_ := Aside0.mk (blk_below (g := gb153) (o := .cells #[.int .i64 0, .int .i64 0, .int .i64 0, .int .i64 0, .slice none 0 0] 26 (0, 0)) (by exact upK BK153.out) hb)
   have n2_ := Aside0.mk (below_step (by repeat (first | (with_reducible first | exact HB.out | apply below_alloc | apply pw_below_drewN | apply below_drew1 | refine below_set ?_ GE152.out | refine below_set ?_ GE153.out) | exact HB.out)) hb)
   clear BK152
   clear BK153
   clear HB
   have BK152 := n0_
   have BK153 := n1_
   have HB := n2_
   clear n0_ n1_ n2_
   (try clear hb)
   (try clear hb2)
   (try clear hk)
   (try clear hi)
   refine hK.out _ _ ⟨(blk_cell BK152.out 0).trans rfl, (blk_cell BK152.out 1).trans rfl, (blk_cell BK152.out 2).trans rfl, (blk_cell BK152.out 3).trans rfl⟩ (fun hHeld => ?_)
   clear hK K
   refine nT ?_
   refine one_ (i := 3) (N := some 6) #[true, true, true, true, false, false] rfl rfl (by kernel_rfl) (by decide) (fun K hK => ?_)
   refine Kd.R_make_step (Kd.int .i64) _ 3 (by rfl) (N := 6) rfl 24 _ _ rfl t154 rfl rfl Try.underlying24 (.int .i64 0) 8 info3 rfl (by decide) (by omega) 0 (ok := fun _ => True) (okp := fun _ => True) rfl (fun _ hk => hk) trivial (of_decide_eq_true (by first | (with_reducible assumption) | assumption)) (Nat.le_trans (Nat.mul_le_mul_right _ (of_decide_eq_true (by first | (with_reducible assumption) | assumption) : t154.toNat ≤ 35184372088832)) (by omega)) (Below.refl _ _) (Nat.le_refl _) ?_
   intro v156 w9 ho10 hb hg_ hnew_
   clear hg_ hnew_
   (first | rw [← Ny155.out] at ho10 | (simp only [Int.reduceToNat] at ho10; rw [← Ny155.out] at ho10))
   have n0_ := Aside0.mk (Kd.R_lower ho10 (below_size (by repeat (first | (with_reducible first | exact HB.out | apply below_alloc | apply pw_below_drewN | apply below_drew1 | refine below_set ?_ GE152.out | refine below_set ?_ GE153.out) | exact HB.out))))
   have n1_ := Aside0.mk (blk_below (g := gb152) (o := .cells #[.int .i64 a0_0, .int .i64 a0_1, .int .i64 a0_2, .int .i64 a0_3] 23 (0, 0)) (by exact upK BK152.out) hb)
   have n2_ := Aside0.mk (blk_below (g := gb153) (o := .cells #[.int .i64 0, .int .i64 0, .int .i64 0, .int .i64 0, .slice none 0 0] 26 (0, 0)) (by exact upK BK153.out) hb)
   have n3_ := Aside0.mk (below_step (by repeat (first | (with_reducible first | exact HB.out | apply below_alloc | apply pw_below_drewN | apply below_drew1 | refine below_set ?_ GE152.out | refine below_set ?_ GE153.out) | exact HB.out)) hb)
   clear BK152
   clear BK153
   clear HB
   have HO157 := n0_
   have BK152 := n1_
   have BK153 := n2_
   have HB := n3_
   clear n0_ n1_ n2_ n3_
   clear hb ho10
   obtain ⟨Ao11, co11, eo11⟩ := Kd.R_slice HO157.out
   (first | subst eo11 | (injection eo11 with f1_ f2_ f3_; have f4_ := f1_.symm; have f5_ := f3_.symm; clear f1_ f2_ f3_; subst f4_; subst f5_))
   refine hK.out _ _ ⟨(blk_cell BK152.out 0).trans rfl, (blk_cell BK152.out 1).trans rfl, (blk_cell BK152.out 2).trans rfl, (blk_cell BK152.out 3).trans rfl⟩ (fun hHeld => ?_)
   clear hK K
   refine nT ?_
   refine pT (i := 4) (N := some 7) ?_
   refine one_ (i := 5) (N := none) #[true, true, true, true, true, true] rfl rfl (by kernel_rfl) (by decide) (fun K hK => ?_)
   have hs12 : w9.cell? ⟨gb153, 0, none⟩ = some (.int .i64 0) := (blk_cell BK153.out 0).trans rfl
   have hfs12 := blk_frozen BK153.out 0
   have hns12_0 := NB152_153.out
   have hms12_0 := NB153_152.out
   have hs13 : w9.cell? ⟨gb153, 1, none⟩ = some (.int .i64 0) := (blk_cell BK153.out 1).trans rfl
   have hfs13 := blk_frozen BK153.out 1
   have hns13_0 := NB152_153.out
   have hms13_0 := NB153_152.out
   have hs14 : w9.cell? ⟨gb153, 2, none⟩ = some (.int .i64 0) := (blk_cell BK153.out 2).trans rfl
   have hfs14 := blk_frozen BK153.out 2
   have hns14_0 := NB152_153.out
   have hms14_0 := NB153_152.out
   have hs15 : w9.cell? ⟨gb153, 3, none⟩ = some (.int .i64 0) := (blk_cell BK153.out 3).trans rfl
   have hfs15 := blk_frozen BK153.out 3
   have hns15_0 := NB152_153.out
   have hms15_0 := NB153_152.out
   have hs16 : w9.cell? ⟨gb153, 4, none⟩ = some (.slice none 0 0) := (blk_cell BK153.out 4).trans rfl
   have hfs16 := blk_frozen BK153.out 4
   have hns16_0 := NB152_153.out
   have hms16_0 := NB153_152.out
   refine skip_ (w1 := ?_) (by rfl) rfl ?_ ?_
   rotate_left
   ·go_simp
    rfl
   refine hK.out _ _ ⟨((cell_far (p := ⟨gb153, _, none⟩) NB152_153.out _).trans (((cell_far (p := ⟨gb153, _, none⟩) NB152_153.out _).trans (((cell_far (p := ⟨gb153, _, none⟩) NB152_153.out _).trans (((cell_far (p := ⟨gb153, _, none⟩) NB152_153.out _).trans (((cell_far (p := ⟨gb153, _, none⟩) NB152_153.out _).trans (hHeld.1)))))))))), ((cell_far (p := ⟨gb153, _, none⟩) NB152_153.out _).trans (((cell_far (p := ⟨gb153, _, none⟩) NB152_153.out _).trans (((cell_far (p := ⟨gb153, _, none⟩) NB152_153.out _).trans (((cell_far (p := ⟨gb153, _, none⟩) NB152_153.out _).trans (((cell_far (p := ⟨gb153, _, none⟩) NB152_153.out _).trans (hHeld.2.1)))))))))), ((cell_far (p := ⟨gb153, _, none⟩) NB152_153.out _).trans (((cell_far (p := ⟨gb153, _, none⟩) NB152_153.out _).trans (((cell_far (p := ⟨gb153, _, none⟩) NB152_153.out _).trans (((cell_far (p := ⟨gb153, _, none⟩) NB152_153.out _).trans (((cell_far (p := ⟨gb153, _, none⟩) NB152_153.out _).trans (hHeld.2.2.1)))))))))), ((cell_far (p := ⟨gb153, _, none⟩) NB152_153.out _).trans (((cell_far (p := ⟨gb153, _, none⟩) NB152_153.out _).trans (((cell_far (p := ⟨gb153, _, none⟩) NB152_153.out _).trans (((cell_far (p := ⟨gb153, _, none⟩) NB152_153.out _).trans (((cell_far (p := ⟨gb153, _, none⟩) NB152_153.out _).trans (hHeld.2.2.2))))))))))⟩ (fun hHeld => ?_)
   clear hK K
   refine done_ (by kernel_rfl) ?_
   try go_wp2
   refine bodyPost_ret (results_cell_row rfl _ _ gb153 26 #[.int .i64 a0_0, .int .i64 a0_1, .int .i64 a0_2, .int .i64 a0_3, .slice Ao11 y155.length co11] (0, 0) _ rfl (by (with_reducible repeat (first | refine blk_drewN ?_ _ | refine blk_drew ?_ | refine blk_alloc ?_ _)); refine blk_put (cs := #[.int .i64 a0_0, .int .i64 a0_1, .int .i64 a0_2, .int .i64 a0_3, .slice none 0 0]) ?_ 4 _ rfl; (with_reducible repeat (first | refine blk_drewN ?_ _ | refine blk_drew ?_ | refine blk_alloc ?_ _)); refine blk_put (cs := #[.int .i64 a0_0, .int .i64 a0_1, .int .i64 a0_2, .int .i64 0, .slice none 0 0]) ?_ 3 _ rfl; (with_reducible repeat (first | refine blk_drewN ?_ _ | refine blk_drew ?_ | refine blk_alloc ?_ _)); refine blk_put (cs := #[.int .i64 a0_0, .int .i64 a0_1, .int .i64 0, .int .i64 0, .slice none 0 0]) ?_ 2 _ rfl; (with_reducible repeat (first | refine blk_drewN ?_ _ | refine blk_drew ?_ | refine blk_alloc ?_ _)); refine blk_put (cs := #[.int .i64 a0_0, .int .i64 0, .int .i64 0, .int .i64 0, .slice none 0 0]) ?_ 1 _ rfl; (with_reducible repeat (first | refine blk_drewN ?_ _ | refine blk_drew ?_ | refine blk_alloc ?_ _)); refine blk_put (cs := #[.int .i64 0, .int .i64 0, .int .i64 0, .int .i64 0, .slice none 0 0]) ?_ 0 _ rfl; exact upK BK153.out) Try.underlying26 rfl (by kernel_rfl)) rfl ?_
   exact ⟨_, by first | rfl | (simp [errW_none, errW_some] <;> rfl) | (simp [*, errW_none, errW_some] <;> rfl), by (with_reducible repeat (first | apply Kd.R_alloc | apply Kd.R_drewN | apply Kd.R_drew)); exact Kd.R_mono (Kd.R_far (p := ⟨gb153, 4, none⟩) (Kd.R_far (p := ⟨gb153, 3, none⟩) (Kd.R_far (p := ⟨gb153, 2, none⟩) (Kd.R_far (p := ⟨gb153, 1, none⟩) (Kd.R_far (p := ⟨gb153, 0, none⟩) (Kd.R_types HO157.out BK153.out (by decide)) (fun _ hk => hk.2) (.int .i64 a0_0)) (fun _ hk => hk.2) (.int .i64 a0_1)) (fun _ hk => hk.2) (.int .i64 a0_2)) (fun _ hk => hk.2) (.int .i64 a0_3)) (fun _ hk => hk.2) (.slice Ao11 y155.length co11)) (fun _ hk => trivial), by repeat (first | (with_reducible first | exact HB.out | apply below_alloc | apply pw_below_drewN | apply below_drew1 | refine below_set ?_ GE152.out | refine below_set ?_ GE153.out) | exact HB.out)⟩
  ·rw [if_neg c4] at H
   exact absurd H (by simp)
 ·rw [if_neg c3] at H
  exact absurd H (by simp)
end Go.Proofs.Ytcnpekpgghppnaa.Q
