/- Texts of this session (words and printed walks, merged by wip/tools/merge.py) for the statement of the claim. -/
import Derived.Test.YtcnpekpgghppnaaMLo0
import Derived.Test.YtcnpekpgghppnaaProg
import Derived.Below
import Derived.Deep.Draws
import Derived.Deep.AppendLies
import Derived.Maps.AppendAt
import Derived.OwnWalk
import Derived.Laws.BytesArg
import Derived.Laws.MakeOwn
import Derived.Laws.OwnMore
import Derived.Deep.OwnRows
import Derived.Tactics
import Derived.Lib.ConvBytes
import Derived.Laws.Slices
import Derived.WalkKit
import Derived.KernelRfl
import Derived.RowKit3
import Derived.Deep.LoopGhost
import Derived.Deep.QuietTactic
import Derived.BigQuiet
import Derived.WideLaws
import Derived.Deep.DeepCutAuto
import Derived.Deep.CutBlock
import Derived.Deep.RegionHeld3
import Derived.Laws.Rows
import Derived.Lib.AppendStr
import Derived.ArgAppend
import Derived.Laws.IdiomCopy
import Derived.OrdersHeld
import Derived.Laws.BitsLemmas
import Derived.RowKit
import Derived.Defers
import Derived.Recover
import Derived.WalkSmall
import Derived.Laws.NewBlocks
import Derived.Deep.MidRow
namespace Go.Proofs.YtcnpekpgghppnaaW.PrintWords
open Go.RowKit Go.Proofs.YtcnpekpgghppnaaW Go.Proofs.YtcnpekpgghppnaaW.PrintLast Go.Proofs.YtcnpekpgghppnaaW.PrintMore
section
variable {P : Program} {ops : Array Oper} {Q : Exit → Act → World → Prop} {md : Region.Mode} {S : World → Prop} {ds : List Nat} {l : Array Bool} {a : Act} {w : World} {oi : Oper} {fuel : Nat} {T : Bool × List (List Nat × List Nat)}
set_option linter.unusedVariables false
theorem pT {i : Nat} {N : Option Tmp} {v : Value} {l' : Array Bool} {a' : Act} (h : wpAnyLast P md ops Q S ds fuel l' a' w)
    (hl : l.setIfInBounds i true = l' := by simp only [List.setIfInBounds_toArray, List.set_cons_zero, List.set_cons_succ]; rfl)
    (hi : ops[i]? = some oi := by rfl) (hN : oi.dst = N := by rfl) (hc : anyB md ops l l' i = true := by kernel_rfl)
    (hQ : ∀ c a w, Q (.panic c) (a.put oi.dst v) w → Q (.panic c) a w := by exact fun _ _ _ h => h)
    (hy : Yields P ops oi v a := by refine Or.inl ⟨by rfl, ?_⟩; intro w'; go_simp; with_reducible rfl)
    (ha : a.put N v = a' := by simp only [Act.put, List.setIfInBounds_toArray, List.set_cons_zero, List.set_cons_succ, i64_w, i32_w]; rfl) : wpAnyLast P md ops Q S ds (fuel + 1) l a w := pure_ l' hi hN hc hQ hy ha h
theorem pTT {i : Nat} {N : Option Tmp} {v : Value} {l' : Array Bool} (hT : rtab md ops = T) {a' : Act} (h : wpAnyLast P md ops Q S ds fuel l' a' w)
    (hl : l.setIfInBounds i true = l' := by simp only [List.setIfInBounds_toArray, List.set_cons_zero, List.set_cons_succ]; rfl)
    (hi : ops[i]? = some oi := by rfl) (hN : oi.dst = N := by rfl) (hc : anyT T l.toList l'.toList i = true := by kernel_rfl)
    (hQ : ∀ c a w, Q (.panic c) (a.put oi.dst v) w → Q (.panic c) a w := by exact fun _ _ _ h => h)
    (hy : Yields P ops oi v a := by refine Or.inl ⟨by rfl, ?_⟩; intro w'; go_simp; with_reducible rfl)
    (ha : a.put N v = a' := by simp only [Act.put, List.setIfInBounds_toArray, List.set_cons_zero, List.set_cons_succ, i64_w, i32_w]; rfl) : wpAnyLast P md ops Q S ds (fuel + 1) l a w := pure_ l' hi hN (any_of hT hc) hQ hy ha h
theorem tT {i : Nat} {N : Option Tmp} {v : Value} {l' : Array Bool} (hS : S w) {a' : Act} (h : wpAnyLast P md ops Q S ds fuel l' a' w)
    (hl : l.setIfInBounds i true = l' := by simp only [List.setIfInBounds_toArray, List.set_cons_zero, List.set_cons_succ]; rfl)
    (hi : ops[i]? = some oi := by rfl) (hN : oi.dst = N := by rfl) (hc : takeB md ops ds l l' i = true := by kernel_rfl)
    (hQ : ∀ c a w, Q (.panic c) (a.put oi.dst v) w → Q (.panic c) a w := by exact fun _ _ _ h => h)
    (hy : YieldsIf P ops S oi v a := by refine Or.inl ⟨by rfl, ?_⟩; intro w' hS_; (repeat (have hs_ := And.left hS_; replace hS_ := And.right hS_)); go_simp; with_reducible rfl)
    (ha : a.put N v = a' := by simp only [Act.put, List.setIfInBounds_toArray, List.set_cons_zero, List.set_cons_succ, i64_w, i32_w]; rfl) : wpAnyLast P md ops Q S ds (fuel + 1) l a w := take_ l' hi hN hc hQ hy hS ha h
theorem tL {i : Nat} {N : Option Tmp} {v : Value} {l' : Array Bool} (hi : ops[i]? = some oi) (hy : YieldsIf P ops S oi v a) (hS : S w) {a' : Act} (h : wpAnyLast P md ops Q S ds fuel l' a' w)
    (hl : l.setIfInBounds i true = l' := by simp only [List.setIfInBounds_toArray, List.set_cons_zero, List.set_cons_succ]; rfl)
    (hN : oi.dst = N := by rfl) (hc : takeB md ops ds l l' i = true := by kernel_rfl)
    (hQ : ∀ c a w, Q (.panic c) (a.put oi.dst v) w → Q (.panic c) a w := by exact fun _ _ _ h => h)
    (ha : a.put N v = a' := by simp only [Act.put, List.setIfInBounds_toArray, List.set_cons_zero, List.set_cons_succ, i64_w, i32_w]; rfl) : wpAnyLast P md ops Q S ds (fuel + 1) l a w := take_ l' hi hN hc hQ hy hS ha h
theorem nT {a' : Act} (h : wpAnyLast P md ops Q S ds fuel l a' w) (ha : a = a' := by (show Act.put _ (some _) _ = _); simp only [Act.put, List.setIfInBounds_toArray, List.set_cons_zero, List.set_cons_succ, i64_w, i32_w]; rfl) : wpAnyLast P md ops Q S ds fuel l a w := norm_ ha h
theorem bT {rest : List Oper} {o : Oper} {W : World} {N : Tmp} (cs : Array Value) (t : TypeId)
    (h : ∀ g, g = W.heap.size → ∀ w1, w1.heap[g]? = some (.cells cs t (0, 0)) → Below W.heap.size W w1 → wpList P ops Q rest (a.put o.dst (.pointer (some ⟨g, 0, none⟩))) w1)
    (hg : o.guard = none := by rfl) (hd : o.dst = some N := by rfl)
    (hr : (execOp a.eval o).run P W = .ok (.value (.pointer (some ⟨W.heap.size, 0, none⟩))) (W.alloc (.cells cs t (0, 0))) := by first | (go_simp; done) | (go_simp; rfl)) : wpList P ops Q (o :: rest) a W := box_event hg hd hr h
end
theorem upK {P Q : Prop} (h : P) (f : P → Q := by intro h_; (with_reducible repeat (first | refine blk_drewN ?_ _ | refine blk_drew ?_ | refine blk_alloc ?_ _)); exact h_) : Q := f h
end Go.Proofs.YtcnpekpgghppnaaW.PrintWords
namespace Go.Proofs.YtcnpekpgghppnaaW.PrintWords
open Go.RowKit
set_option linter.unusedVariables false
namespace Kd
section
variable {P : Program} {ops : Array Oper} {rest : List Oper} {o : Oper} {a : Act} {Q : Exit → Act → World → Prop} {α : Type}
theorem R_made (d : Kd α) {W : World} (base e : Nat) (bytes : Nat) (z : Value) (hz : z.cells.size = d.sz) (hs0 : 0 < d.sz) (hb0 : 0 < bytes) (z0 : α) {ok okp : Nat → Prop} (hzero : d.M W base okp z0 z.cells.toList) (hok : ∀ k, okp k → ok k) (hfresh : ok W.heap.size)
    (hbase : base ≤ W.heap.size) (n c : Nat) (hnc : n ≤ c) (hl : c * bytes ≤ 281474976710656) :
    d.R e (W.alloc (.cells (madeCells z.cells (c * d.sz)) e)) base ok (.slice (some ⟨W.heap.size, 0, none⟩) n c) (List.replicate n z0) := by
  have hc : c ≤ 281474976710656 := Nat.le_trans (Nat.le_mul_of_pos_right _ hb0) hl
  have hrep := reps_made (R := d.M W base okp) hz hs0 hzero c
  have hall : d.R e (W.alloc (.cells (madeCells z.cells (c * d.sz)) e)) base ok (.slice (some ⟨W.heap.size, 0, none⟩) c c) (List.replicate c z0) := by
    refine ⟨fun k hk => ?_, (madeCells z.cells (c * d.sz)).toList, ?_, ?_⟩
    · have : W.heap.size = k := by simpa [Value.ownBlock] using hk
      subst this
      exact hfresh
    · have h2 := World.ownsRow_lit (base := base) (e := e) (size := d.sz) W (madeCells z.cells (c * d.sz)) (List.replicate c z0).length hbase (by simp [maxLen]; omega) (by simpa using hrep.1)
      simpa using h2
    · refine hrep.imp_ (fun p c' hp => d.M_mono (fun k hk => ⟨hok k hk.1, fun he => ?_⟩) (M_below (d.M_bound hp) (below_alloc (Below.refl _ _) _)))
      have h3 : k = W.heap.size := by simpa [Value.ownBlock] using he
      have := hk.2.2.1
      omega
  have := R_take hall (m := n) (by simp; omega)
  rwa [List.take_replicate, Nat.min_eq_left hnc] at this
theorem R_make_cap (d : Kd α) {w0 W : World} (base e : Nat) (hgd : o.guard = none) {N : Tmp} (hd : o.dst = some N) (t : TypeId) (x y : Operand) (ho : o.op = .makeSlice t x y) (kx ky : IntKind) (n c : Int) (hx : a.eval x = .int kx n) (hy : a.eval y = .int ky c)
    (ht : P.underlying t = some (.slice e)) (z : Value) (bytes : Nat) (hinfo : (P.info? e).map (fun i => (i.zero, i.size, i.bytes)) = some (some z, d.sz, bytes)) (hz : z.cells.size = d.sz) (hs0 : 0 < d.sz) (hb0 : 0 < bytes)
    (z0 : α) {ok okp : Nat → Prop} (hzero : d.M W base okp z0 z.cells.toList) (hok : ∀ k, okp k → ok k) (hfresh : ok W.heap.size) (h0 : 0 ≤ n) (hnc : n ≤ c) (hl : c.toNat * bytes ≤ 281474976710656) (HB : Below base w0 W) (hbase : base ≤ W.heap.size)
    (h : ∀ v1 w1, d.R e w1 base ok v1 (List.replicate n.toNat z0) → Below base w0 w1 → W.grownBy w1 none → (∃ b, v1.ownBlock = some b ∧ W.heap.size ≤ b) → wpList P ops Q rest (a.put o.dst v1) w1) : wpList P ops Q (o :: rest) a W := by
  obtain ⟨m, rfl⟩ := Int.eq_ofNat_of_zero_le h0
  obtain ⟨q, rfl⟩ := Int.eq_ofNat_of_zero_le (show 0 ≤ c by omega)
  simp only [Int.toNat_natCast] at hl h
  obtain ⟨i0, hi, hzz⟩ := Option.map_eq_some_iff.1 hinfo
  simp only [Prod.mk.injEq] at hzz
  obtain ⟨hz0, hz1, hz2⟩ := hzz
  have hm : q ≤ 281474976710656 := Nat.le_trans (Nat.le_mul_of_pos_right _ hb0) hl
  have hr := run_make (P := P) W t e i0 z ht hi hz0 kx ky (m : Int) (q : Int) (by omega) hnc
    (by
      have h3 : ((i0.bytes * q : Nat) : Int) ≤ 281474976710656 := by rw [hz2, Nat.mul_comm]; omega
      rwa [Int.natCast_mul] at h3) (by omega)
  simp only [Int.toNat_natCast] at hr
  rw [hz1] at hr
  refine event_run hgd (by simp [execOp, ho, hx, hy, hr]) (h _ _ (R_made d base e bytes z hz hs0 hb0 z0 hzero hok hfresh hbase m q (by omega) hl) (HB.alloc hbase _) (World.grownBy_alloc W _ none) ⟨W.heap.size, by simp [Value.ownBlock], Nat.le_refl _⟩)
end
end Kd
end Go.Proofs.YtcnpekpgghppnaaW.PrintWords
namespace Go.Proofs.Ytcnpekpgghppnaa.Q
open Go.RowKit Go.Proofs.YtcnpekpgghppnaaW.PrintWords Go.Proofs.YtcnpekpgghppnaaW.PrintLast Go.Proofs.YtcnpekpgghppnaaW.PrintMore
attribute [local go_sem] max2_int min2_int max_two min_two max_three min_three max_four min_four
set_option linter.unusedVariables false
set_option linter.unusedSimpArgs false
def errW : Option Int → Value
 | none => .nilIface
 | some c => .iface 0 (.int .i64 c)
theorem errW_none : errW none = .nilIface := rfl
theorem errW_some (c : Int) : errW (some c) = .iface 0 (.int .i64 c) := rfl
theorem info3 : (Try.prog.info? 3).map (fun i => (i.zero, i.size, i.bytes)) = some (some (.int .i64 0), 1, 8) := by kernel_rfl
theorem info26 : (Try.prog.info? 26).map (fun i => (i.zero, i.size, i.bytes)) = some (some (.agg #[(.int .i64 0), (.int .i64 0), (.int .i64 0), (.int .i64 0), (.slice none 0 0)]), 5, 56) := by kernel_rfl
-- the values' own types
structure S23 where
 f0 : Int
 f1 : Int
 f2 : Int
 f3 : Int
def z23 : S23 := ⟨(0 : Int), (0 : Int), (0 : Int), (0 : Int)⟩
def k23 : Kd S23 := Kd.iso (Kd.pair (Kd.int .i64) (Kd.pair (Kd.int .i64) (Kd.pair (Kd.int .i64) (Kd.int .i64)))) (fun x : S23 => (x.f0, x.f1, x.f2, x.f3))
theorem k23_open {w : World} {x : S23} {cs : List Value} (h : k23.K w x cs) : cs = [.int .i64 x.f0, .int .i64 x.f1, .int .i64 x.f2, .int .i64 x.f3] := by
 obtain ⟨_, _, rfl, rfl, ⟨_, _, rfl, rfl, ⟨_, _, rfl, rfl, rfl⟩⟩⟩ := h
 exact rfl
theorem k23_mk (w : World) (x : S23)  : k23.K w x [.int .i64 x.f0, .int .i64 x.f1, .int .i64 x.f2, .int .i64 x.f3] := ⟨[.int .i64 x.f0], [.int .i64 x.f1, .int .i64 x.f2, .int .i64 x.f3], rfl, rfl, ⟨[.int .i64 x.f1], [.int .i64 x.f2, .int .i64 x.f3], rfl, rfl, ⟨[.int .i64 x.f2], [.int .i64 x.f3], rfl, rfl, rfl⟩⟩⟩
structure S26 where
 f0 : S23
 f1 : (List Int)
def z26 : S26 := ⟨z23, ([] : List Int)⟩
def k26 : Kd S26 := Kd.iso (Kd.pair k23 (Kd.slice 3 (Kd.int .i64))) (fun x : S26 => (x.f0, x.f1))
theorem k26_open {w : World} {x : S26} {cs : List Value} (h : k26.K w x cs) : ∃ A4 c4, cs = [.int .i64 x.f0.f0, .int .i64 x.f0.f1, .int .i64 x.f0.f2, .int .i64 x.f0.f3, .slice A4 x.f1.length c4] ∧ x.f1.length ≤ c4 ∧ (Kd.int .i64).C w A4 x.f1.length x.f1 := by
 obtain ⟨_, _, rfl, s0, ⟨A4, c4, rfl, l4, g4⟩⟩ := h
 obtain rfl := k23_open s0
 exact ⟨A4, c4, rfl, l4, g4⟩
theorem k26_mk (w : World) (x : S26) {A4 : Option Addr} {c4 : Nat} (l4 : x.f1.length ≤ c4) (g4 : (Kd.int .i64).C w A4 x.f1.length x.f1) : k26.K w x [.int .i64 x.f0.f0, .int .i64 x.f0.f1, .int .i64 x.f0.f2, .int .i64 x.f0.f3, .slice A4 x.f1.length c4] := ⟨[.int .i64 x.f0.f0, .int .i64 x.f0.f1, .int .i64 x.f0.f2, .int .i64 x.f0.f3], [.slice A4 x.f1.length c4], rfl, (k23_mk w x.f0 ), ⟨A4, c4, rfl, l4, g4⟩⟩
def rd_T26 (xs : List S26) (i : Int) : S26 := xs.getD i.toNat z26
theorem at_T26 {w : World} {A : Option Addr} {n : Nat} {xs : List S26} (h : Kd.C k26 w A n xs) (i : Int) (h0 : 0 ≤ i) (h1 : i < n) : ∃ ad A4 c4, A = some ad ∧ w.cell? (ad.add (i.toNat * 5)) = some (.int .i64 (rd_T26 xs i).f0.f0) ∧ w.cell? ⟨(ad.add (i.toNat * 5)).block, (ad.add (i.toNat * 5)).off + 1, none⟩ = some (.int .i64 (rd_T26 xs i).f0.f1) ∧ w.cell? ⟨(ad.add (i.toNat * 5)).block, (ad.add (i.toNat * 5)).off + 2, none⟩ = some (.int .i64 (rd_T26 xs i).f0.f2) ∧ w.cell? ⟨(ad.add (i.toNat * 5)).block, (ad.add (i.toNat * 5)).off + 3, none⟩ = some (.int .i64 (rd_T26 xs i).f0.f3) ∧ w.cell? ⟨(ad.add (i.toNat * 5)).block, (ad.add (i.toNat * 5)).off + 4, none⟩ = some (.slice A4 (rd_T26 xs i).f1.length c4) ∧ (rd_T26 xs i).f1.length ≤ c4 ∧ (Kd.int .i64).C w A4 (rd_T26 xs i).f1.length (rd_T26 xs i).f1 := by
 obtain ⟨ad, c, e, _, hK, hc0⟩ := Kd.C_get h z26 i h0 h1
 have hc : ∀ j u, c[j]? = some u → w.cell? (ad.add (i.toNat * 5 + j)) = some u := hc0
 obtain ⟨A4, c4, rfl, l4, g4⟩ := k26_open hK
 exact ⟨ad, A4, c4, e, hc 0 _ rfl, by rw [← add_field _ _ 1 (by omega)]; exact hc 1 _ rfl, by rw [← add_field _ _ 2 (by omega)]; exact hc 2 _ rfl, by rw [← add_field _ _ 3 (by omega)]; exact hc 3 _ rfl, by rw [← add_field _ _ 4 (by omega)]; exact hc 4 _ rfl, l4, g4⟩
end Go.Proofs.Ytcnpekpgghppnaa.Q
namespace Go.Proofs.Ytcnpekpgghppnaa.Q
open Go.RowKit Go.Proofs.YtcnpekpgghppnaaW.PrintWords Go.Proofs.YtcnpekpgghppnaaW.PrintLast Go.Proofs.YtcnpekpgghppnaaW.PrintMore
set_option linter.unusedVariables false
set_option linter.unusedSimpArgs false
/-- Some cells of a block are stored, one behind the other. -/
def setL (W : World) (g : Nat) : Nat → List Value → World
  | _, [] => W
  | i, v :: vs => setL (W.setCell ⟨g, i, none⟩ v) g (i + 1) vs
def setA (c : Array Value) : Nat → List Value → Array Value
  | _, [] => c
  | i, v :: vs => setA (c.setIfInBounds i v) (i + 1) vs
theorem setL_blk {g t : Nat} : ∀ (vs : List Value) (W : World) (i : Nat) (c : Array Value), W.heap[g]? = some (.cells c t (0, 0)) → (setL W g i vs).heap[g]? = some (.cells (setA c i vs) t (0, 0))
  | [], _, _, _, h => h
  | v :: vs, W, i, c, h => setL_blk vs _ (i + 1) _ (blk_set h i v)
theorem setA_list : ∀ (vs : List Value) (i : Nat) (c : Array Value), c.size = i + vs.length → (setA c i vs).toList = c.toList.take i ++ vs
  | [], i, c, h => by
    rw [setA, List.append_nil, List.take_of_length_le (by simp at h ⊢; omega)]
  | v :: vs, i, c, h => by
    have h' : i < c.size := by simp at h; omega
    rw [setA, setA_list vs (i + 1) _ (by simp at h ⊢; omega)]
    rw [Array.toList_setIfInBounds, List.take_succ_eq_append_getElem (by simp; omega), List.take_set_of_le (Nat.le_refl _)]
    simp
theorem setL_full {W : World} {g t : Nat} {c : Array Value} (h : W.heap[g]? = some (.cells c t (0, 0))) (vs : List Value) (hl : c.size = vs.length) : (setL W g 0 vs).heap[g]? = some (.cells vs.toArray t (0, 0)) := by
  rw [setL_blk vs W 0 c h]
  have := setA_list vs 0 c (by omega)
  simp only [List.take_zero, List.nil_append] at this
  rw [show setA c 0 vs = vs.toArray from Array.toList_inj.1 (by rw [this])]
theorem setL_below {w : World} {g B : Nat} (hg : B ≤ g) : ∀ (vs : List Value) (W : World) (i : Nat), Below B w W → Below B w (setL W g i vs)
  | [], _, _, h => h
  | v :: vs, W, i, h => setL_below hg vs _ (i + 1) (h.setCell (p := ⟨g, i, none⟩) hg v)
theorem setL_far {g g' : Nat} {o : Obj} (hg : g' ≠ g) : ∀ (vs : List Value) (W : World) (i : Nat), W.heap[g']? = some o → (setL W g i vs).heap[g']? = some o
  | [], _, _, h => h
  | v :: vs, W, i, h => setL_far hg vs _ (i + 1) ((Below.heap_setCell W ⟨g, i, none⟩ v g' hg).trans h)
theorem setL_R {α : Type} {d : Kd α} {e base : Nat} {ok : Nat → Prop} {v : Value} {xs : List α} {g : Nat} (hok : ∀ k, ok k → k ≠ g) : ∀ (vs : List Value) (W : World) (i : Nat), d.R e W base ok v xs → d.R e (setL W g i vs) base ok v xs
  | [], _, _, h => h
  | u :: vs, W, i, h => setL_R hok vs _ (i + 1) (Kd.R_far (p := ⟨g, i, none⟩) h hok u)
section
variable {P : Program} {ops : Array Oper} {rest : List Oper} {o : Oper} {a : Act} {Q : Exit → Act → World → Prop} {W : World} {g t : Nat} {cs old : Array Value} {ty : TypeId} {fs : Array Field} {K : Act → World → Prop}
theorem range_blk (hb : W.heap[g]? = some (.cells cs t (0, 0))) : W.rangeAt g 0 cs.toList := fun j v hv => by
  rw [Nat.zero_add, blk_cell hb j]
  simpa using hv
theorem there_blk (hb : W.heap[g]? = some (.cells old t (0, 0))) {n : Nat} (hn : old.size = n) : W.there g 0 n := fun j hj => by
  rw [Nat.zero_add, blk_cell hb j]
  refine ⟨?_, blk_frozen hb j⟩
  rw [Array.getElem?_eq_getElem (by omega)]
  rfl
theorem setCells_setL (g : Nat) : ∀ (vs : List Value) (W : World) (i : Nat), W.setCells g i vs = setL W g i vs
  | [], _, _ => rfl
  | v :: vs, W, i => by
    show World.setCells _ g (i + 1) vs = _
    rw [setCells_setL g vs]
    rfl
theorem run_load_blk (hb : W.heap[g]? = some (.cells cs t (0, 0))) (hu : P.underlying ty = some (.struct fs)) (hi : (P.info? ty).map (·.size) = some cs.size) : (Instr.loadAt ty (.pointer (some ⟨g, 0, none⟩))).run P W = .ok (.agg cs) W := by
  have := run_loadAt_mid (P := P) W g 0 ty cs.toList (.struct fs) (range_blk hb) hu rfl (by simpa using hi)
  simpa using this
theorem run_store_blk (hb : W.heap[g]? = some (.cells old t (0, 0))) (hs : old.size = cs.size) (hi : (P.info? ty).map (·.size) = some cs.size) (h1 : cs.all (·.oneCell') = true) : (Instr.storeAt ty (.pointer (some ⟨g, 0, none⟩)) (.agg cs)).run P W = .ok () (setL W g 0 cs.toList) := by
  rw [← setCells_setL]
  exact run_storeAt_mid W g 0 ty cs (there_blk hb hs) hi h1
/-- What a store of a whole struct leaves. -/
structure Stored (W : World) (g t : Nat) (cs : Array Value) (W' : World) : Prop where
  blk : W'.heap[g]? = some (.cells cs t (0, 0))
  far : ∀ (g' : Nat) (o : Obj), g' ≠ g → W.heap[g']? = some o → W'.heap[g']? = some o
  below : ∀ (B : Nat) (w : World), B ≤ g → Below B w W → Below B w W'
  row : ∀ {α : Type} {d : Kd α} {e base : Nat} {ok : Nat → Prop} {v : Value} {xs : List α}, (∀ k, ok k → k ≠ g) → d.R e W base ok v xs → d.R e W' base ok v xs
theorem stored (hb : W.heap[g]? = some (.cells old t (0, 0))) (hs : old.size = cs.size) : Stored W g t cs (setL W g 0 cs.toList) :=
  ⟨by have := setL_full hb cs.toList (by simpa using hs); simpa using this, fun g' o hg h => setL_far hg cs.toList W 0 h, fun B w hB h => setL_below hB cs.toList W 0 h, fun hok h => setL_R hok cs.toList W 0 h⟩
theorem load_ev (hgd : o.guard = none) (ty : TypeId) (x : Operand) (ho : o.op = .load ty x) (hx : a.eval x = .pointer (some ⟨g, 0, none⟩)) (hb : W.heap[g]? = some (.cells cs t (0, 0))) (hu : P.underlying ty = some (.struct fs)) (hi : (P.info? ty).map (·.size) = some cs.size)
    (h : wpList P ops Q rest (a.put o.dst (.agg cs)) W) : wpList P ops Q (o :: rest) a W :=
  wpList_plain hgd fun K hK => by
    unfold Oper.wp execOp
    simp only [ho, hx, Sem.run_bind, run_load_blk hb hu hi, Result.andThen_ok, Sem.run_pure]
    exact hK _ _ h
theorem store_ev (hgd : o.guard = none) (hN : o.dst = none) (ty : TypeId) (x y : Operand) (ho : o.op = .store ty x y) (hx : a.eval x = .pointer (some ⟨g, 0, none⟩)) (hy : a.eval y = .agg cs) (hb : W.heap[g]? = some (.cells old t (0, 0))) (hs : old.size = cs.size) (hi : (P.info? ty).map (·.size) = some cs.size) (h1 : cs.all (·.oneCell') = true)
    (h : ∀ W', Stored W g t cs W' → wpList P ops Q rest a W') : wpList P ops Q (o :: rest) a W :=
  wpList_plain hgd fun K hK => by
    unfold Oper.wp execOp
    simp only [ho, hx, hy, Sem.run_bind, run_store_blk hb hs hi h1, Result.andThen_ok, Sem.run_pure]
    show K (a.put o.dst undef) _
    rw [hN]
    exact hK _ _ (h _ (stored hb hs))
theorem load_yields {S : World → Prop} (hw : Region.wanted o (yielded ops a.tmps) = true) (ty : TypeId) (x : Operand) (ho : o.op = .load ty x) (hx : a.eval x = .pointer (some ⟨g, 0, none⟩)) (hS : ∀ w, S w → w.heap[g]? = some (.cells cs t (0, 0))) (hu : P.underlying ty = some (.struct fs)) (hi : (P.info? ty).map (·.size) = some cs.size) : YieldsIf P ops S o (.agg cs) a :=
  .inl ⟨hw, fun w hw' => by
    unfold execOp
    simp only [ho, hx, Sem.run_bind, run_load_blk (hS w hw') hu hi, Result.andThen_ok, Sem.run_pure]⟩
theorem store_step (hw : Region.wanted o (yielded ops a.tmps) = true) (hN : o.dst = none) (ty : TypeId) (x y : Operand) (ho : o.op = .store ty x y) (hx : a.eval x = .pointer (some ⟨g, 0, none⟩)) (hy : a.eval y = .agg cs) (hb : W.heap[g]? = some (.cells old t (0, 0))) (hs : old.size = cs.size) (hi : (P.info? ty).map (·.size) = some cs.size) (h1 : cs.all (·.oneCell') = true)
    (h : ∀ W', Stored W g t cs W' → K a W') : if Region.wanted o (yielded ops a.tmps) = true then Oper.wp P o a W K Q else K (a.put none undef) W := by
  refine skip_ (w1 := setL W g 0 cs.toList) hw hN ?_ (h _ (stored hb hs))
  unfold execOp
  simp only [ho, hx, hy, Sem.run_bind, run_store_blk hb hs hi h1, Result.andThen_ok, Sem.run_pure]
end
/-- Blocks that are held: each full, no two alike. -/
structure Bks (n : Nat) (w0 W : World) (l : List (Nat × Nat × Array Value)) : Prop where
  blk : ∀ (i : Nat) (b : Nat × Nat × Array Value), l[i]? = some b → W.heap[b.1]? = some (.cells b.2.2 b.2.1 (0, 0))
  ne : ∀ (i j : Nat) (b c : Nat × Nat × Array Value), i ≠ j → l[i]? = some b → l[j]? = some c → b.1 ≠ c.1
  ge : ∀ (i : Nat) (b : Nat × Nat × Array Value), l[i]? = some b → n ≤ b.1
  below : Below n w0 W
namespace Bks
variable {n : Nat} {w0 W W' : World} {l : List (Nat × Nat × Array Value)} {i g t : Nat} {cs : Array Value}
theorem nil (w : World) : Bks w.heap.size w w [] := ⟨fun i b h => by simp at h, fun i j b c _ h => by simp at h, fun i b h => by simp at h, Below.refl _ _⟩
theorem get (h : Bks n w0 W l) (i : Nat) (hi : l[i]? = some (g, t, cs)) : W.heap[g]? = some (.cells cs t (0, 0)) := h.blk i _ hi
theorem cell (h : Bks n w0 W l) (i : Nat) (hi : l[i]? = some (g, t, cs)) (j : Nat) {v : Value} (hv : cs[j]? = some v) : W.cell? ⟨g, j, none⟩ = some v := (blk_cell (h.get i hi) j).trans hv
theorem call (h : Bks n w0 W l) (hn : n ≤ W.heap.size) (hb : Below W.heap.size W W') : Bks n w0 W' l :=
  ⟨fun i b hi => blk_below (h.blk i b hi) hb, h.ne, h.ge, h.below.trans (hb.mono hn)⟩
theorem into (h : Bks n w0 W l) (hi : l[i]? = some (g, t, cs)) (cs' : Array Value) (h1 : W'.heap[g]? = some (.cells cs' t (0, 0))) (h2 : ∀ (g' : Nat) (o : Obj), g' ≠ g → W.heap[g']? = some o → W'.heap[g']? = some o) (h3 : Below n w0 W') : Bks n w0 W' (l.set i (g, t, cs')) := by
  have key : ∀ (j : Nat) (b : Nat × Nat × Array Value), (l.set i (g, t, cs'))[j]? = some b → (j = i ∧ b = (g, t, cs')) ∨ (j ≠ i ∧ l[j]? = some b) := by
    intro j b hj
    by_cases hji : j = i
    · subst hji
      rw [List.getElem?_set] at hj
      rw [if_pos rfl] at hj
      split at hj
      · exact .inl ⟨rfl, (Option.some.inj hj).symm⟩
      · exact absurd hj (by simp)
    · rw [List.getElem?_set, if_neg (Ne.symm hji)] at hj
      exact .inr ⟨hji, hj⟩
  have nm : ∀ (j : Nat) (b : Nat × Nat × Array Value), (l.set i (g, t, cs'))[j]? = some b → ∃ c, l[j]? = some c ∧ c.1 = b.1 := by
    intro j b hj
    rcases key j b hj with ⟨rfl, rfl⟩ | ⟨_, h'⟩
    · exact ⟨_, hi, rfl⟩
    · exact ⟨_, h', rfl⟩
  refine ⟨fun j b hj => ?_, fun j k b c hjk hj hk => ?_, fun j b hj => ?_, h3⟩
  · rcases key j b hj with ⟨rfl, rfl⟩ | ⟨hne, h'⟩
    · exact h1
    · exact h2 _ _ (h.ne j i _ _ hne h' hi) (h.blk j b h')
  · obtain ⟨b', hb', e1⟩ := nm j b hj
    obtain ⟨c', hc', e2⟩ := nm k c hk
    rw [← e1, ← e2]
    exact h.ne j k _ _ hjk hb' hc'
  · obtain ⟨b', hb', e1⟩ := nm j b hj
    rw [← e1]
    exact h.ge j _ hb'
theorem set (h : Bks n w0 W l) (i : Nat) (hi : l[i]? = some (g, t, cs)) (j : Nat) (v : Value) {cs' : Array Value} (hcs : cs.setIfInBounds j v = cs') : Bks n w0 (W.setCell ⟨g, j, none⟩ v) (l.set i (g, t, cs')) :=
  h.into hi cs' (blk_put (h.get i hi) j v hcs) (fun g' o hg ho => (Below.heap_setCell W ⟨g, j, none⟩ v g' hg).trans ho) (h.below.setCell (p := ⟨g, j, none⟩) (h.ge i _ hi) v)
theorem stored (h : Bks n w0 W l) (i : Nat) (hi : l[i]? = some (g, t, cs)) {cs' : Array Value} (hs : Stored W g t cs' W') : Bks n w0 W' (l.set i (g, t, cs')) :=
  h.into hi cs' hs.blk hs.far (hs.below _ _ (h.ge i _ hi) h.below)
theorem box (h : Bks n w0 W l) (hn : n ≤ W.heap.size) (hg : g = W.heap.size) (hbox : W'.heap[g]? = some (.cells cs t (0, 0))) (hb : Below W.heap.size W W') : Bks n w0 W' ((g, t, cs) :: l) := by
  have lt : ∀ (j : Nat) (b : Nat × Nat × Array Value), l[j]? = some b → b.1 < g := fun j b hj => hg ▸ blk_lt (h.blk j b hj)
  have h' := h.call hn hb
  refine ⟨fun j b hj => ?_, fun j k b c hjk hj hk => ?_, fun j b hj => ?_, h'.below⟩
  · cases j with
    | zero => obtain rfl : (g, t, cs) = b := by simpa using hj
              exact hbox
    | succ j => exact h'.blk j b (by simpa using hj)
  · cases j with
    | zero => obtain rfl : (g, t, cs) = b := by simpa using hj
              cases k with
              | zero => exact absurd rfl hjk
              | succ k => exact Nat.ne_of_gt (lt k c (by simpa using hk))
    | succ j => cases k with
              | zero => obtain rfl : (g, t, cs) = c := by simpa using hk
                        exact Nat.ne_of_lt (lt j b (by simpa using hj))
              | succ k => exact h.ne j k b c (fun e => hjk (by rw [e])) (by simpa using hj) (by simpa using hk)
  · cases j with
    | zero => obtain rfl : (g, t, cs) = b := by simpa using hj
              exact hg ▸ hn
    | succ j => exact h.ge j b (by simpa using hj)
theorem alloc (h : Bks n w0 W l) (hn : n ≤ W.heap.size) (cs : Array Value) (t : Nat) : Bks n w0 (W.alloc (.cells cs t)) ((W.heap.size, t, cs) :: l) :=
  h.box hn rfl (blk_new W _) (below_alloc (Below.refl _ _) _)
theorem drew (h : Bks n w0 W l) : Bks n w0 W.drew l := ⟨h.blk, h.ne, h.ge, below_drew1 h.below⟩
end Bks
theorem row_stored {α : Type} {d : Kd α} {e base g t : Nat} {W W' : World} {cs cs' : Array Value} {v : Value} {xs : List α} (hR : d.R e W base (fun _ => True) v xs) (hb : W.heap[g]? = some (.cells cs t (0, 0))) (ht : ∀ q, q ∈ e :: d.E → q ≠ t) (hs : Stored W g t cs' W') : d.R e W' base (fun _ => True) v xs :=
  Kd.R_mono (hs.row (fun _ hk => hk.2) (Kd.R_types hR hb ht)) (fun _ _ => trivial)
/-- The place that the mirror leads to. -/
def mirF : Nat → Int → Int → Option Int
 | 0, _, _ => none
 | k + 1, last, i => if i < 0 then mirF k last (wrap64 (-i)) else if i > last then mirF k last (wrap64 (wrap64 (2 * last) - i)) else some i
set_option maxHeartbeats 8000000 in
set_option maxRecDepth 100000 in
theorem line_at.calls (k : Nat) (A : Option Addr) (c : Nat) (xs : List Int) (start i m : Int) (w : World) (hr : Kd.C (Kd.int .i64) w A xs.length xs) (h : mirF k (wrap64 ((xs.length : Int) - 1)) i = some m) (h0 : 0 ≤ m) (h1 : m < (xs.length : Int)) :
  Calls Try.prog 85 #[.agg #[.slice A xs.length c, .int .i64 start], .int .i64 i] w fun e w' => e = .returned (.int .i64 (rd xs m)) ∧ Below w.heap.size w w' := by
 have H := Aside0.mk h
 have HR := Aside0.mk hr
 have HM := Aside0.mk (And.intro h0 h1)
 clear h hr h0 h1
 have K00 := Aside0.mk (Bks.nil w)
 go_enter Try.func85, Try.ntmps85
 go_wp2_with (first
  | ((with_reducible refine gate_dst (N := 2) rfl ?_); refine bT (N := 2) (#[.slice A xs.length c, .int .i64 start]) 97 ?_; intro g2 hg W2 hbox hb; have K := Aside0.mk (K00.out.box (Nat.le_refl _) hg hbox hb); clear hg hbox hb K00; have f0 : W2.cell? ⟨g2, 0, none⟩ = some (.slice A xs.length c) := K.out.cell 0 rfl 0 rfl))
 go_loopg [1] k (fun kq v1 w' => ∃ i : Int, v1 = .int .i64 i ∧ Aside0 (mirF kq (wrap64 ((xs.length : Int) - 1)) i = some m) ∧ w' = W2)
 case atStart => exact ⟨i, rfl, H, rfl⟩
 case round =>
 clear H
 obtain ⟨i, rfl, HX, rfl⟩ := hrel
 cases gk with
 | zero => exact absurd HX.out (by simp [mirF])
 | succ kk =>
 have hs := HX.out
 clear HX
 rw [mirF.eq_2] at hs
 by_cases h1 : i < 0
 ·rw [if_pos h1] at hs
  have HX := Aside0.mk hs
  have b1 : decide (i < 0) = true := decide_eq_true h1
  clear hs h1
  go_wp2
  go_roundg kk
  case measure => omega
  case rel => exact ⟨_, rfl, HX, rfl⟩
 rw [if_neg h1] at hs
 have b1 : decide (i < 0) = false := decide_eq_false h1
 by_cases h2 : i > wrap64 ((xs.length : Int) - 1)
 ·rw [if_pos h2] at hs
  have HX := Aside0.mk hs
  have b2 : decide (wrap64 ((xs.length : Int) - 1) < i) = true := decide_eq_true h2
  clear hs h1 h2
  go_wp2
  go_roundg kk
  case measure => omega
  case rel => exact ⟨_, rfl, HX, rfl⟩
 rw [if_neg h2] at hs
 have b2 : decide (wrap64 ((xs.length : Int) - 1) < i) = false := decide_eq_false h2
 obtain rfl : i = m := Option.some.inj hs
 clear hs h1 h2
 obtain ⟨m0, m1⟩ := HM.out
 obtain ⟨ad, e0, hx⟩ := Kd.at_int (Kd.C_below HR.out K.out.below) i m0 m1
 subst e0
 have p0 : (0 ≤ i) = True := eq_true m0
 have p1 : (i < (xs.length : Int)) = True := eq_true m1
 clear m0 m1
 go_wp2
 go_ret
 exact ⟨rfl, K.out.below⟩
/-- The number at a mirrored place. -/
def atF (k : Nat) (xs : List Int) (i : Int) : Option Int := (mirF k (wrap64 ((xs.length : Int) - 1)) i).bind fun m => if 0 ≤ m ∧ m < (xs.length : Int) then some (rd xs m) else none
theorem at_atF {k : Nat} {A : Option Addr} {c : Nat} {xs : List Int} {start i v : Int} {w : World} (hr : Kd.C (Kd.int .i64) w A xs.length xs) (h : atF k xs i = some v) :
  Calls Try.prog 85 #[.agg #[.slice A xs.length c, .int .i64 start], .int .i64 i] w fun e w' => e = .returned (.int .i64 v) ∧ Below w.heap.size w w' := by
 obtain ⟨m, hm, h⟩ := Option.bind_eq_some_iff.mp h
 by_cases hc : 0 ≤ m ∧ m < (xs.length : Int)
 ·rw [if_pos hc] at h
  obtain rfl := Option.some.inj h
  exact line_at.calls k A c xs start i m w hr hm hc.1 hc.2
 ·rw [if_neg hc] at h
  cases h
def pr1F (k : Nat) (xs : List Int) (i : Int) : Option Int := atF k xs (wrap64 (i - 1))
def pr2F (k : Nat) (xs : List Int) (i : Int) : Option Int := (atF k xs (wrap64 (i - 1))).bind fun a => (atF k xs (wrap64 (i + 1))).bind fun b => some (wrap64 (a + b) / 2)
def pr3F (k : Nat) (xs : List Int) (i : Int) : Option Int := (atF k xs (wrap64 (i - 1))).bind fun a => (atF k xs (wrap64 (i + 1))).bind fun b => (atF k xs (wrap64 (i - 3))).bind fun d => (atF k xs (wrap64 (i + 3))).bind fun f => some (wrap64 (wrap64 (wrap64 (9 * wrap64 (a + b)) - wrap64 (d + f)) + 8) / 16)
def up1F (k : Nat) (xs : List Int) (i : Int) : Option Int := (atF k xs (wrap64 (i + 1))).bind fun a => some (a / 2)
def up2F (k : Nat) (xs : List Int) (i : Int) : Option Int := (atF k xs (wrap64 (i - 1))).bind fun a => (atF k xs (wrap64 (i + 1))).bind fun b => some (wrap64 (wrap64 (a + b) + 2) / 4)
/-- Function F, over a line's box, computes fq. -/
def LineFn (F : Nat) (fq : List Int → Int → Option Int) : Prop := ∀ (g : Nat) (A : Option Addr) (c : Nat) (xs : List Int) (start i v : Int) (w : World), w.heap[g]? = some (.cells #[.slice A xs.length c, .int .i64 start] 97 (0, 0)) → Kd.C (Kd.int .i64) w A xs.length xs → fq xs i = some v → Calls Try.prog F #[.int .i64 i, .pointer (some ⟨g, 0, none⟩)] w fun e w' => e = .returned (.int .i64 v) ∧ Below w.heap.size w w'
set_option maxHeartbeats 8000000 in
set_option maxRecDepth 100000 in
theorem pr1_fn (k : Nat) : LineFn 84 (pr1F k) := by
 intro g A c xs start i v w hb hr h
 have HR := Aside0.mk hr
 have HB := Aside0.mk hb
 have H := Aside0.mk h
 clear hb hr h
 have H2 := Aside0.mk (show atF k xs (wrap64 (i - 1)) = some v from H.out)
 clear H
 have H := H2
 clear H2
 go_enter Try.func84, Try.ntmps84
 go_wp2_with (first | ((with_reducible refine gate_dst (N := 4) rfl ?_); refine load_ev rfl 97 (.tmp 1) rfl rfl HB.out Try.underlying97 rfl ?_) | (go_at_call 85; (with_reducible refine (at_atF HR.out H.out).mono ?_); rintro _ w1 ⟨rfl, b⟩; have BW := Aside0.mk b; clear b))
 go_ret
 exact ⟨rfl, BW.out⟩
set_option maxHeartbeats 8000000 in
set_option maxRecDepth 100000 in
theorem up1_fn (k : Nat) : LineFn 88 (up1F k) := by
 intro g A c xs start i v w hb hr h
 have HR := Aside0.mk hr
 have HB := Aside0.mk hb
 have H := Aside0.mk h
 clear hb hr h
 go_enter Try.func88, Try.ntmps88
 obtain ⟨a, ha, h2⟩ := Option.bind_eq_some_iff.mp H.out
 obtain rfl := Option.some.inj h2
 have HA := Aside0.mk ha
 clear ha h2 H
 go_wp2_with (first | ((with_reducible refine gate_dst (N := 4) rfl ?_); refine load_ev rfl 97 (.tmp 1) rfl rfl HB.out Try.underlying97 rfl ?_) | (go_at_call 85; (with_reducible refine (at_atF HR.out HA.out).mono ?_); rintro _ w1 ⟨rfl, b⟩; have BW := Aside0.mk b; clear b))
 go_ret
 exact ⟨rfl, BW.out⟩
set_option maxHeartbeats 8000000 in
set_option maxRecDepth 100000 in
theorem pr2_fn (k : Nat) : LineFn 86 (pr2F k) := by
 intro g A c xs start i v w hb hr h
 have HR := Aside0.mk hr
 have HB := Aside0.mk hb
 have H := Aside0.mk h
 clear hb hr h
 go_enter Try.func86, Try.ntmps86
 have h := H.out
 clear H
 obtain ⟨a, ha, h⟩ := Option.bind_eq_some_iff.mp h
 obtain ⟨e, he, h⟩ := Option.bind_eq_some_iff.mp h
 obtain rfl := Option.some.inj h
 have HA := Aside0.mk ha
 clear ha
 have HE := Aside0.mk he
 clear he
 clear h
 go_wp2
 have BW := Aside0.mk (below_drew1 (Below.refl w.heap.size w))
 replace HB := Aside0.mk (blk_drew HB.out)
 replace HR := Aside0.mk (Kd.C_drew HR.out)
 refine start_ (n := 11) (S := fun w' => w'.heap[g]? = some (.cells #[.slice A xs.length c, .int .i64 start] 97 (0, 0))) (ds := []) #[false, false, false, false, false, false, false, false, false, false, false] (by kernel_rfl) rfl rfl HB.out (fun hHeld0 => ?_)
 generalize hw0 : w.drew = w0 at *
 clear hw0
 have hHeld := Aside0.mk hHeld0
 clear hHeld0
 refine tL (i := 0) (N := some 4) (v := .agg #[.slice A xs.length c, .int .i64 start]) rfl (load_yields (by rfl) 97 (.tmp 1) rfl rfl (fun _ h => h) Try.underlying97 rfl) hHeld.out ?_
 refine tL (i := 4) (N := some 8) (v := .agg #[.slice A xs.length c, .int .i64 start]) rfl (load_yields (by rfl) 97 (.tmp 1) rfl rfl (fun _ h => h) Try.underlying97 rfl) hHeld.out ?_
 refine pT (i := 1) (N := some 5) ?_
 refine pT (i := 2) (N := some 6) ?_
 refine pT (i := 5) (N := some 9) ?_
 refine pT (i := 6) (N := some 10) ?_
 refine one_ (i := 3) (N := some 7) #[true, true, true, true, true, true, true, false, false, false, false] rfl rfl (by kernel_rfl) (by decide) (fun K hK => ?_)
 refine goes_ Try.func85 (by kernel_rfl) rfl #[.agg #[.slice A xs.length c, .int .i64 start], .int .i64 (wrap64 (i - 1))] (by rfl) rfl rfl (by simp only [List.map_toArray, List.map_cons, List.map_nil]; rfl) ?_
 refine (at_atF HR.out HA.out).mono ?_
 rintro _ w1 ⟨rfl, b⟩
 refine ⟨_, rfl, ?_⟩
 replace HB := Aside0.mk (blk_below HB.out b)
 replace HR := Aside0.mk (Kd.C_below HR.out b)
 replace BW := Aside0.mk (BW.out.trans (b.mono BW.out.size))
 clear b
 refine hK.out _ _ HB.out (fun hHeld => ?_)
 clear hK K
 refine nT ?_
 refine one_ (i := 7) (N := some 11) #[true, true, true, true, true, true, true, true, false, false, false] rfl rfl (by kernel_rfl) (by decide) (fun K hK => ?_)
 refine goes_ Try.func85 (by kernel_rfl) rfl #[.agg #[.slice A xs.length c, .int .i64 start], .int .i64 (wrap64 (i + 1))] (by rfl) rfl rfl (by simp only [List.map_toArray, List.map_cons, List.map_nil]; rfl) ?_
 refine (at_atF HR.out HE.out).mono ?_
 rintro _ w2 ⟨rfl, b⟩
 refine ⟨_, rfl, ?_⟩
 replace HB := Aside0.mk (blk_below HB.out b)
 replace HR := Aside0.mk (Kd.C_below HR.out b)
 replace BW := Aside0.mk (BW.out.trans (b.mono BW.out.size))
 clear b
 refine hK.out _ _ HB.out (fun hHeld => ?_)
 clear hK K
 refine nT ?_
 refine pT (i := 8) (N := some 12) ?_
 refine pT (i := 9) (N := some 13) ?_
 refine pT (i := 10) (N := some 3) ?_
 refine done_ (by kernel_rfl) ?_
 go_wp2
 go_ret
 exact ⟨rfl, BW.out⟩
set_option maxHeartbeats 8000000 in
set_option maxRecDepth 100000 in
theorem up2_fn (k : Nat) : LineFn 89 (up2F k) := by
 intro g A c xs start i v w hb hr h
 have HR := Aside0.mk hr
 have HB := Aside0.mk hb
 have H := Aside0.mk h
 clear hb hr h
 go_enter Try.func89, Try.ntmps89
 have h := H.out
 clear H
 obtain ⟨a, ha, h⟩ := Option.bind_eq_some_iff.mp h
 obtain ⟨e, he, h⟩ := Option.bind_eq_some_iff.mp h
 obtain rfl := Option.some.inj h
 have HA := Aside0.mk ha
 clear ha
 have HE := Aside0.mk he
 clear he
 clear h
 go_wp2
 have BW := Aside0.mk (below_drew1 (Below.refl w.heap.size w))
 replace HB := Aside0.mk (blk_drew HB.out)
 replace HR := Aside0.mk (Kd.C_drew HR.out)
 refine start_ (n := 12) (S := fun w' => w'.heap[g]? = some (.cells #[.slice A xs.length c, .int .i64 start] 97 (0, 0))) (ds := []) #[false, false, false, false, false, false, false, false, false, false, false, false] (by kernel_rfl) rfl rfl HB.out (fun hHeld0 => ?_)
 generalize hw0 : w.drew = w0 at *
 clear hw0
 have hHeld := Aside0.mk hHeld0
 clear hHeld0
 refine tL (i := 0) (N := some 4) (v := .agg #[.slice A xs.length c, .int .i64 start]) rfl (load_yields (by rfl) 97 (.tmp 1) rfl rfl (fun _ h => h) Try.underlying97 rfl) hHeld.out ?_
 refine tL (i := 4) (N := some 8) (v := .agg #[.slice A xs.length c, .int .i64 start]) rfl (load_yields (by rfl) 97 (.tmp 1) rfl rfl (fun _ h => h) Try.underlying97 rfl) hHeld.out ?_
 refine pT (i := 1) (N := some 5) ?_
 refine pT (i := 2) (N := some 6) ?_
 refine pT (i := 5) (N := some 9) ?_
 refine pT (i := 6) (N := some 10) ?_
 refine one_ (i := 3) (N := some 7) #[true, true, true, true, true, true, true, false, false, false, false, false] rfl rfl (by kernel_rfl) (by decide) (fun K hK => ?_)
 refine goes_ Try.func85 (by kernel_rfl) rfl #[.agg #[.slice A xs.length c, .int .i64 start], .int .i64 (wrap64 (i - 1))] (by rfl) rfl rfl (by simp only [List.map_toArray, List.map_cons, List.map_nil]; rfl) ?_
 refine (at_atF HR.out HA.out).mono ?_
 rintro _ w1 ⟨rfl, b⟩
 refine ⟨_, rfl, ?_⟩
 replace HB := Aside0.mk (blk_below HB.out b)
 replace HR := Aside0.mk (Kd.C_below HR.out b)
 replace BW := Aside0.mk (BW.out.trans (b.mono BW.out.size))
 clear b
 refine hK.out _ _ HB.out (fun hHeld => ?_)
 clear hK K
 refine nT ?_
 refine one_ (i := 7) (N := some 11) #[true, true, true, true, true, true, true, true, false, false, false, false] rfl rfl (by kernel_rfl) (by decide) (fun K hK => ?_)
 refine goes_ Try.func85 (by kernel_rfl) rfl #[.agg #[.slice A xs.length c, .int .i64 start], .int .i64 (wrap64 (i + 1))] (by rfl) rfl rfl (by simp only [List.map_toArray, List.map_cons, List.map_nil]; rfl) ?_
 refine (at_atF HR.out HE.out).mono ?_
 rintro _ w2 ⟨rfl, b⟩
 refine ⟨_, rfl, ?_⟩
 replace HB := Aside0.mk (blk_below HB.out b)
 replace HR := Aside0.mk (Kd.C_below HR.out b)
 replace BW := Aside0.mk (BW.out.trans (b.mono BW.out.size))
 clear b
 refine hK.out _ _ HB.out (fun hHeld => ?_)
 clear hK K
 refine nT ?_
 refine pT (i := 8) (N := some 12) ?_
 refine pT (i := 9) (N := some 13) ?_
 refine pT (i := 10) (N := some 14) ?_
 refine pT (i := 11) (N := some 3) ?_
 refine done_ (by kernel_rfl) ?_
 go_wp2
 go_ret
 exact ⟨rfl, BW.out⟩
set_option maxHeartbeats 8000000 in
set_option maxRecDepth 100000 in
theorem pr3_fn (k : Nat) : LineFn 87 (pr3F k) := by
 intro g A c xs start i v w hb hr h
 have HR := Aside0.mk hr
 have HB := Aside0.mk hb
 have H := Aside0.mk h
 clear hb hr h
 go_enter Try.func87, Try.ntmps87
 have h := H.out
 clear H
 obtain ⟨a, ha, h⟩ := Option.bind_eq_some_iff.mp h
 obtain ⟨e, he, h⟩ := Option.bind_eq_some_iff.mp h
 obtain ⟨d, hd, h⟩ := Option.bind_eq_some_iff.mp h
 obtain ⟨f, hf, h⟩ := Option.bind_eq_some_iff.mp h
 obtain rfl := Option.some.inj h
 have HA := Aside0.mk ha
 clear ha
 have HE := Aside0.mk he
 clear he
 have HD := Aside0.mk hd
 clear hd
 have HF := Aside0.mk hf
 clear hf
 clear h
 go_wp2
 have BW := Aside0.mk (below_drew1 (Below.refl w.heap.size w))
 replace HB := Aside0.mk (blk_drew HB.out)
 replace HR := Aside0.mk (Kd.C_drew HR.out)
 refine start_ (n := 23) (S := fun w' => w'.heap[g]? = some (.cells #[.slice A xs.length c, .int .i64 start] 97 (0, 0))) (ds := []) #[false, false, false, false, false, false, false, false, false, false, false, false, false, false, false, false, false, false, false, false, false, false, false] (by kernel_rfl) rfl rfl HB.out (fun hHeld0 => ?_)
 generalize hw0 : w.drew = w0 at *
 clear hw0
 have hHeld := Aside0.mk hHeld0
 clear hHeld0
 refine tL (i := 0) (N := some 4) (v := .agg #[.slice A xs.length c, .int .i64 start]) rfl (load_yields (by rfl) 97 (.tmp 1) rfl rfl (fun _ h => h) Try.underlying97 rfl) hHeld.out ?_
 refine tL (i := 4) (N := some 8) (v := .agg #[.slice A xs.length c, .int .i64 start]) rfl (load_yields (by rfl) 97 (.tmp 1) rfl rfl (fun _ h => h) Try.underlying97 rfl) hHeld.out ?_
 refine tL (i := 10) (N := some 14) (v := .agg #[.slice A xs.length c, .int .i64 start]) rfl (load_yields (by rfl) 97 (.tmp 1) rfl rfl (fun _ h => h) Try.underlying97 rfl) hHeld.out ?_
 refine tL (i := 14) (N := some 18) (v := .agg #[.slice A xs.length c, .int .i64 start]) rfl (load_yields (by rfl) 97 (.tmp 1) rfl rfl (fun _ h => h) Try.underlying97 rfl) hHeld.out ?_
 refine pT (i := 1) (N := some 5) ?_
 refine pT (i := 2) (N := some 6) ?_
 refine pT (i := 5) (N := some 9) ?_
 refine pT (i := 6) (N := some 10) ?_
 refine pT (i := 11) (N := some 15) ?_
 refine pT (i := 12) (N := some 16) ?_
 refine pT (i := 15) (N := some 19) ?_
 refine pT (i := 16) (N := some 20) ?_
 refine one_ (i := 3) (N := some 7) #[true, true, true, true, true, true, true, false, false, false, true, true, true, false, true, true, true, false, false, false, false, false, false] rfl rfl (by kernel_rfl) (by decide) (fun K hK => ?_)
 refine goes_ Try.func85 (by kernel_rfl) rfl #[.agg #[.slice A xs.length c, .int .i64 start], .int .i64 (wrap64 (i - 1))] (by rfl) rfl rfl (by simp only [List.map_toArray, List.map_cons, List.map_nil]; rfl) ?_
 refine (at_atF HR.out HA.out).mono ?_
 rintro _ w1 ⟨rfl, b⟩
 refine ⟨_, rfl, ?_⟩
 replace HB := Aside0.mk (blk_below HB.out b)
 replace HR := Aside0.mk (Kd.C_below HR.out b)
 replace BW := Aside0.mk (BW.out.trans (b.mono BW.out.size))
 clear b
 refine hK.out _ _ HB.out (fun hHeld => ?_)
 clear hK K
 refine nT ?_
 refine one_ (i := 7) (N := some 11) #[true, true, true, true, true, true, true, true, false, false, true, true, true, false, true, true, true, false, false, false, false, false, false] rfl rfl (by kernel_rfl) (by decide) (fun K hK => ?_)
 refine goes_ Try.func85 (by kernel_rfl) rfl #[.agg #[.slice A xs.length c, .int .i64 start], .int .i64 (wrap64 (i + 1))] (by rfl) rfl rfl (by simp only [List.map_toArray, List.map_cons, List.map_nil]; rfl) ?_
 refine (at_atF HR.out HE.out).mono ?_
 rintro _ w2 ⟨rfl, b⟩
 refine ⟨_, rfl, ?_⟩
 replace HB := Aside0.mk (blk_below HB.out b)
 replace HR := Aside0.mk (Kd.C_below HR.out b)
 replace BW := Aside0.mk (BW.out.trans (b.mono BW.out.size))
 clear b
 refine hK.out _ _ HB.out (fun hHeld => ?_)
 clear hK K
 refine nT ?_
 refine pT (i := 8) (N := some 12) ?_
 refine pT (i := 9) (N := some 13) ?_
 refine one_ (i := 13) (N := some 17) #[true, true, true, true, true, true, true, true, true, true, true, true, true, true, true, true, true, false, false, false, false, false, false] rfl rfl (by kernel_rfl) (by decide) (fun K hK => ?_)
 refine goes_ Try.func85 (by kernel_rfl) rfl #[.agg #[.slice A xs.length c, .int .i64 start], .int .i64 (wrap64 (i - 3))] (by rfl) rfl rfl (by simp only [List.map_toArray, List.map_cons, List.map_nil]; rfl) ?_
 refine (at_atF HR.out HD.out).mono ?_
 rintro _ w3 ⟨rfl, b⟩
 refine ⟨_, rfl, ?_⟩
 replace HB := Aside0.mk (blk_below HB.out b)
 replace HR := Aside0.mk (Kd.C_below HR.out b)
 replace BW := Aside0.mk (BW.out.trans (b.mono BW.out.size))
 clear b
 refine hK.out _ _ HB.out (fun hHeld => ?_)
 clear hK K
 refine nT ?_
 refine one_ (i := 17) (N := some 21) #[true, true, true, true, true, true, true, true, true, true, true, true, true, true, true, true, true, true, false, false, false, false, false] rfl rfl (by kernel_rfl) (by decide) (fun K hK => ?_)
 refine goes_ Try.func85 (by kernel_rfl) rfl #[.agg #[.slice A xs.length c, .int .i64 start], .int .i64 (wrap64 (i + 3))] (by rfl) rfl rfl (by simp only [List.map_toArray, List.map_cons, List.map_nil]; rfl) ?_
 refine (at_atF HR.out HF.out).mono ?_
 rintro _ w4 ⟨rfl, b⟩
 refine ⟨_, rfl, ?_⟩
 replace HB := Aside0.mk (blk_below HB.out b)
 replace HR := Aside0.mk (Kd.C_below HR.out b)
 replace BW := Aside0.mk (BW.out.trans (b.mono BW.out.size))
 clear b
 refine hK.out _ _ HB.out (fun hHeld => ?_)
 clear hK K
 refine nT ?_
 refine pT (i := 18) (N := some 22) ?_
 refine pT (i := 19) (N := some 23) ?_
 refine pT (i := 20) (N := some 24) ?_
 refine pT (i := 21) (N := some 25) ?_
 refine pT (i := 22) (N := some 3) ?_
 refine done_ (by kernel_rfl) ?_
 go_wp2
 go_ret
 exact ⟨rfl, BW.out⟩
section
variable {P : Program} {ops : Array Oper} {Q : Exit → Act → World → Prop}
/-- A call of a function value, in a drawn region. -/
theorem goesV_ {oi : Oper} {N : Option Tmp} {a : Act} {w : World} {K : Act → World → Prop} {f : FuncId} {fn : Func} {ao : Array Operand} {ts : Array TypeId} {x : Operand} {cap : Array Value} (hf : P.funcs[f]? = some fn) (hname : (fn.name == "runtime.NumGoroutine") = false) (hb : fn.body.isSome = true) (args : Array Value)
  (hw : Region.wanted oi (yielded ops a.tmps) = true) (hN : oi.dst = N) (hop : oi.op = .call { callee := .value x, args := ao, argTypes := ts }) (hx : a.eval x = .func (.func f) #[] cap) (hargs : ao.map a.eval ++ cap = args)
  (h : Calls P f args w fun e w' => ∃ v, e = .returned v ∧ K (a.put N v) w') : if Region.wanted oi (yielded ops a.tmps) = true then Oper.wp P oi a w K Q else K (a.put N undef) w := by
 refine call_ f args hw hN ?_ h
 have he := enters_ hf hname hb args w
 unfold execOp
 subst hargs
 simp [hop, resolve, Deferred.ofValue, invoke, hx, he]
end
/-- Adds sg times what is told to each number of a parity, from the i-th on. -/
def stepF (fq : List Int → Int → Option Int) (start par sg : Int) : Nat → Int → List Int → Option (List Int)
 | 0, _, _ => none
 | k + 1, i, xs => if i < (xs.length : Int) then (if 0 ≤ i then (if Int.tmod (wrap64 (start + i)) 2 = par then (fq xs i).bind fun v => stepF fq start par sg k (wrap64 (i + 1)) (xs.set i.toNat (wrap64 (rd xs i + wrap64 (sg * v)))) else stepF fq start par sg k (wrap64 (i + 1)) xs) else none) else some xs
theorem Bks.tl {n : Nat} {w0 W : World} {x : Nat × Nat × Array Value} {l : List (Nat × Nat × Array Value)} (h : Bks n w0 W (x :: l)) : Bks n w0 W l :=
 ⟨fun i b hi => h.blk (i + 1) b (by simpa using hi), fun i j b c hij hi hj => h.ne (i + 1) (j + 1) b c (by omega) (by simpa using hi) (by simpa using hj), fun i b hi => h.ge (i + 1) b (by simpa using hi), h.below⟩
set_option maxHeartbeats 8000000 in
set_option maxRecDepth 100000 in
theorem line_step.calls (F : Nat) (fn : Func) (hf : Try.prog.funcs[F]? = some fn) (hname : (fn.name == "runtime.NumGoroutine") = false) (hbody : fn.body.isSome = true) (fq : List Int → Int → Option Int) (hF : LineFn F fq) (k : Nat) (g a c n : Nat) (xs ys : List Int) (start par sg : Int) (w0 : World) (base : Nat) (ok : Nat → Prop) (w : World)
  (hr : Kd.R (Kd.int .i64) 3 w base ok (.slice (some ⟨a, 0, none⟩) n c) xs) (hb : w.heap[g]? = some (.cells #[.slice (some ⟨a, 0, none⟩) n c, .int .i64 start] 97 (0, 0))) (hB : Below base w0 w) (h : stepF fq start par sg k 0 xs = some ys) :
  Calls Try.prog 77 #[.agg #[.slice (some ⟨a, 0, none⟩) n c, .int .i64 start], .int .i64 par, .int .i64 sg, .func (.func F) #[] #[.pointer (some ⟨g, 0, none⟩)]] w fun e w' => e = .returned (.tuple #[]) ∧ Kd.R (Kd.int .i64) 3 w' base ok (.slice (some ⟨a, 0, none⟩) n c) ys ∧ Kept w w' (fun k => k = a) ∧ Below base w0 w' := by
 have hn : n = xs.length := (Kd.R_reads' hr).1
 have ha : a < w.heap.size := Kd.R_lt hr a rfl
 have hga : g ≠ a := fun e => Kd.R_ne hr hb (by decide) (by rw [e]; rfl)
 have hnm : n ≤ 9223372036854775807 := by rw [hn]; exact (Kd.R_reads' hr).2.2.2.1
 have hbase : base ≤ a := Kd.R_base hr a rfl
 have H := Aside0.mk h
 have HL := Aside0.mk hr
 have HG := Aside0.mk hb
 have HN := Aside0.mk hn
 have HA := Aside0.mk (And.intro hga (And.intro ha (And.intro hnm hbase)))
 have HB := Aside0.mk hB
 have HK := Aside0.mk (Kept.refl w (fun k => k = a))
 have HBS := Aside0.mk (show base ≤ w.heap.size by omega)
 clear h hr hb hn ha hga hnm hbase hB
 go_enter Try.func77, Try.ntmps77
 go_wp2_with (first
  | ((with_reducible refine gate_dst (N := 4) rfl ?_); refine bT (N := 4) (#[.slice (some ⟨a, 0, none⟩) n c, .int .i64 start]) 97 ?_; intro g4 hg W4 hbox hb; have B4 := Aside0.mk hbox; have HGE := Aside0.mk (show w.heap.size ≤ g4 by rw [hg]; exact Nat.le_refl _); have HL' := Aside0.mk (Kd.R_below HL.out hb); have HG' := Aside0.mk (blk_below HG.out hb); have HK' := Aside0.mk (HK.out.below hb); have HB' := Aside0.mk (HB.out.trans (hb.mono (Nat.le_trans HBS.out HK.out.1))); clear HL HG HK HB; have HL := HL'; have HG := HG'; have HK := HK'; have HB := HB'; clear HL' HG' HK' HB'; clear hb hbox hg; have f0 : W4.cell? ⟨g4, 0, none⟩ = some (.slice (some ⟨a, 0, none⟩) n c) := (blk_cell B4.out 0).trans rfl))
 go_loopg [12] k (fun kq v12 w' => ∃ (i : Int) (x : List Int), v12 = .int .i64 i ∧ Aside0 (n = x.length) ∧ Aside0 (stepF fq start par sg kq i x = some ys) ∧ Aside0 (Kd.R (Kd.int .i64) 3 w' base ok (.slice (some ⟨a, 0, none⟩) n c) x) ∧ Aside0 (w'.heap[g]? = some (.cells #[.slice (some ⟨a, 0, none⟩) n c, .int .i64 start] 97 (0, 0))) ∧ Aside0 (w'.heap[g4]? = some (.cells #[.slice (some ⟨a, 0, none⟩) n c, .int .i64 start] 97 (0, 0))) ∧ Aside0 (Kept w w' (fun k => k = a)) ∧ Aside0 (Below base w0 w'))
 case atStart => exact ⟨0, xs, rfl, HN, H, HL, HG, B4, HK, HB⟩
 case round =>
 clear H HL HG B4 HK HB HN f0
 obtain ⟨i, x, rfl, HN, HX, HL, HG, B4, HK, HB⟩ := hrel
 cases gk with
 | zero => exact absurd HX.out (by simp [stepF])
 | succ kk =>
 have hs := HX.out
 clear HX
 rw [stepF.eq_2, ← HN.out] at hs
 by_cases hi : i < (n : Int)
 rotate_left
 ·rw [if_neg hi] at hs
  have hb0 : decide (i < (n : Int)) = false := decide_eq_false hi
  obtain rfl := Option.some.inj hs
  clear hs hi
  go_wp2
  go_end0
  exact ⟨rfl, HL.out, HK.out, HB.out⟩
 rw [if_pos hi] at hs
 by_cases hi0 : 0 ≤ i
 rotate_left
 ·rw [if_neg hi0] at hs
  cases hs
 rw [if_pos hi0] at hs
 have hb0 : decide (i < (n : Int)) = true := decide_eq_true hi
 have f0 : wr.cell? ⟨g4, 0, none⟩ = some (.slice (some ⟨a, 0, none⟩) n c) := (blk_cell B4.out 0).trans rfl
 have f1 : wr.cell? ⟨g4, 1, none⟩ = some (.int .i64 start) := (blk_cell B4.out 1).trans rfl
 by_cases hp : Int.tmod (wrap64 (start + i)) 2 = par
 rotate_left
 ·rw [if_neg hp] at hs
  have HX := Aside0.mk hs
  have hb1 : (Int.tmod (wrap64 (start + i)) 2 == par) = false := beq_eq_false_iff_ne.mpr hp
  clear hs hi hi0 hp
  go_wp2
  go_roundg kk
  case measure => omega
  case rel => exact ⟨_, x, rfl, HN, HX, HL, HG, B4, HK, HB⟩
 ·rw [if_pos hp] at hs
  have hb1 : (Int.tmod (wrap64 (start + i)) 2 == par) = true := beq_iff_eq.mpr hp
  obtain ⟨v, hv, hs⟩ := Option.bind_eq_some_iff.mp hs
  have HX := Aside0.mk hs
  have HV := Aside0.mk hv
  have p0 : (0 ≤ i) = True := eq_true hi0
  have p1 : (i < (n : Int)) = True := eq_true hi
  have hin : i < n := hi
  clear hs hv hp
  go_wp2
  have b := below_drew1 (Below.refl wr.heap.size wr)
  have HL' := Aside0.mk (Kd.R_below HL.out b)
  have HG' := Aside0.mk (blk_below HG.out b)
  have B4' := Aside0.mk (blk_below B4.out b)
  have HK' := Aside0.mk (HK.out.below b)
  have HB' := Aside0.mk (HB.out.trans (b.mono (Nat.le_trans HBS.out HK.out.1)))
  clear HL HG B4 HK HB b
  have HL := HL'
  have HG := HG'
  have B4 := B4'
  have HK := HK'
  have HB := HB'
  clear HL' HG' B4' HK' HB'
  have f0 : wr.drew.cell? ⟨g4, 0, none⟩ = some (.slice (some ⟨a, 0, none⟩) n c) := (blk_cell B4.out 0).trans rfl
  have hx : wr.drew.cell? ⟨a, i.toNat, none⟩ = some (.int .i64 (rd x i)) := (Kd.R_celln (0 : Int) HL.out i hi0 hin).1
  refine start_ (n := 13) (S := fun w' => w'.cell? ⟨g4, 0, none⟩ = some (.slice (some ⟨a, 0, none⟩) n c) ∧ w'.cell? ⟨a, i.toNat, none⟩ = some (.int .i64 (rd x i))) (ds := [12]) #[false, false, false, false, false, false, false, false, false, false, false, false, false] (by kernel_rfl) rfl rfl ⟨f0, hx⟩ (fun hHeld0 => ?_)
  generalize hw1 : wr.drew = W1 at *
  clear hw1
  have hHeld := Aside0.mk hHeld0
  clear hHeld0
  refine pT (i := 0) (N := some 22) ?_
  refine tT (i := 1) (N := some 23) (v := ?_) hHeld.out ?_
  refine pT (i := 2) (N := some 24) ?_
  refine pT (i := 3) (N := some 25) ?_
  refine tT (i := 4) (N := some 26) (v := ?_) hHeld.out ?_
  refine pT (i := 5) (N := some 27) ?_
  refine pT (i := 6) (N := some 28) ?_
  refine pT (i := 7) (N := some 29) ?_
  refine one_ (i := 8) (N := some 30) #[true, true, true, true, true, true, true, true, true, false, false, false, false] rfl rfl (by kernel_rfl) (by decide) (fun K hK => ?_)
  refine goesV_ hf hname hbody #[.int .i64 i, .pointer (some ⟨g, 0, none⟩)] (by rfl) rfl rfl rfl (by simp [Act.eval]) ?_
  refine (hF g (some ⟨a, 0, none⟩) c x start i v _ (by rw [← HN.out]; exact HG.out) (Kd.R_reads' HL.out).2.2 HV.out).mono ?_
  rintro _ W2 ⟨rfl, b⟩
  refine ⟨_, rfl, ?_⟩
  have HL' := Aside0.mk (Kd.R_below HL.out b)
  have HG' := Aside0.mk (blk_below HG.out b)
  have B4' := Aside0.mk (blk_below B4.out b)
  have HK' := Aside0.mk (HK.out.below b)
  have HB' := Aside0.mk (HB.out.trans (b.mono (Nat.le_trans HBS.out HK.out.1)))
  clear HL HG B4 HK HB b
  have HL := HL'
  have HG := HG'
  have B4 := B4'
  have HK := HK'
  have HB := HB'
  clear HL' HG' B4' HK' HB'
  have f0 : W2.cell? ⟨g4, 0, none⟩ = some (.slice (some ⟨a, 0, none⟩) n c) := (blk_cell B4.out 0).trans rfl
  obtain ⟨hx, hz⟩ := Kd.R_celln (0 : Int) HL.out i hi0 hin
  replace hx : W2.cell? ⟨a, i.toNat, none⟩ = some (.int .i64 (rd x i)) := hx
  replace hz : W2.frozen? ⟨a, i.toNat, none⟩ = false := hz
  refine hK.out _ _ ⟨f0, hx⟩ (fun hHeld => ?_)
  clear hK K
  refine nT ?_
  refine pT (i := 9) (N := some 31) ?_
  refine pT (i := 10) (N := some 32) ?_
  refine pT (i := 11) (N := some 33) ?_
  refine last_ (i := 12) (N := none) #[true, true, true, true, true, true, true, true, true, true, true, true, true] rfl rfl (by kernel_rfl) (by decide) (fun K hK => ?_)
  refine skip_ (w1 := ?_) (by rfl) rfl ?_ ?_
  rotate_left
  ·go_simp
   rfl
  refine hK.out _ _ ?_
  clear hK K
  refine done_ (by kernel_rfl) ?_
  have hg4 : g4 ≠ a := by have := HGE.out; have := HA.out.2.1; omega
  go_wp2
  go_roundg kk
  case measure => omega
  case rel => exact ⟨_, _, rfl, ⟨by rw [List.length_set]; exact HN.out⟩, HX, ⟨Kd.R_putn HL.out i _⟩, ⟨blk_far HG.out (p := ⟨a, i.toNat, none⟩) HA.out.1 _⟩, ⟨blk_far B4.out (p := ⟨a, i.toNat, none⟩) hg4 _⟩, ⟨HK.out.setCell (p := ⟨a, i.toNat, none⟩) (.inl rfl) _⟩, ⟨HB.out.setCell (p := ⟨a, i.toNat, none⟩) HA.out.2.2.2 _⟩⟩
def predN (kk : Int) : Nat := if kk = 1 then 84 else if kk = 2 then 86 else 87
def updN (kk : Int) : Nat := if kk = 1 then 88 else 89
def prF (kk : Int) (k : Nat) : List Int → Int → Option Int := if kk = 1 then pr1F k else if kk = 2 then pr2F k else pr3F k
def upF (kk : Int) (k : Nat) : List Int → Int → Option Int := if kk = 1 then up1F k else up2F k
theorem pr_fn (kk : Int) (k : Nat) : LineFn (predN kk) (prF kk k) := by
 unfold predN prF
 by_cases h1 : kk = 1
 ·rw [if_pos h1, if_pos h1]; exact pr1_fn k
 ·rw [if_neg h1, if_neg h1]
  by_cases h2 : kk = 2
  ·rw [if_pos h2, if_pos h2]; exact pr2_fn k
  ·rw [if_neg h2, if_neg h2]; exact pr3_fn k
theorem up_fn (kk : Int) (k : Nat) : LineFn (updN kk) (upF kk k) := by
 unfold updN upF
 by_cases h1 : kk = 1
 ·rw [if_pos h1, if_pos h1]; exact up1_fn k
 ·rw [if_neg h1, if_neg h1]; exact up2_fn k
theorem predN_func (kk : Int) : ∃ fn, Try.prog.funcs[predN kk]? = some fn ∧ (fn.name == "runtime.NumGoroutine") = false ∧ fn.body.isSome = true := by
 unfold predN
 split
 ·exact ⟨Try.f84, Try.func84, by kernel_rfl, by kernel_rfl⟩
 ·split
  ·exact ⟨Try.f86, Try.func86, by kernel_rfl, by kernel_rfl⟩
  ·exact ⟨Try.f87, Try.func87, by kernel_rfl, by kernel_rfl⟩
theorem updN_func (kk : Int) : ∃ fn, Try.prog.funcs[updN kk]? = some fn ∧ (fn.name == "runtime.NumGoroutine") = false ∧ fn.body.isSome = true := by
 unfold updN
 split
 ·exact ⟨Try.f88, Try.func88, by kernel_rfl, by kernel_rfl⟩
 ·exact ⟨Try.f89, Try.func89, by kernel_rfl, by kernel_rfl⟩
set_option maxHeartbeats 8000000 in
set_option maxRecDepth 100000 in
theorem predict.calls (kk : Int) (A : Option Addr) (n c : Nat) (start : Int) (w : World) :
  Calls Try.prog 78 #[.agg #[.slice A n c, .int .i64 start], .int .i64 kk] w fun e w' => ∃ g, e = .returned (.func (.func (predN kk)) #[] #[.pointer (some ⟨g, 0, none⟩)]) ∧ w'.heap[g]? = some (.cells #[.slice A n c, .int .i64 start] 97 (0, 0)) ∧ w.heap.size ≤ g ∧ Below w.heap.size w w' := by
 have hmf : ∀ (fn : Fn) (first cap : Array Value) (w : World), (Instr.makeFunc fn first cap).run Try.prog w = .ok (.func fn first cap) w := fun _ _ _ _ => rfl
 unfold predN
 by_cases h1 : kk = 1
 ·rw [if_pos h1]
  have b1 : (kk == 1) = true := beq_iff_eq.mpr h1
  clear h1
  go_enter Try.func78, Try.ntmps78
  go_wp2_with ((with_reducible refine gate_dst (N := 2) rfl ?_); refine bT (N := 2) (#[.slice A n c, .int .i64 start]) 97 ?_; intro g2 hg W2 hbox hb; have B2 := Aside0.mk hbox; have HB := Aside0.mk hb; have HG := Aside0.mk (show w.heap.size ≤ g2 by rw [hg]; exact Nat.le_refl _); clear hbox hb hg)
  go_ret
  exact ⟨_, rfl, B2.out, HG.out, HB.out⟩
 rw [if_neg h1]
 have b1 : (kk == 1) = false := beq_eq_false_iff_ne.mpr h1
 clear h1
 by_cases h2 : kk = 2
 ·rw [if_pos h2]
  have b2 : (kk == 2) = true := beq_iff_eq.mpr h2
  clear h2
  go_enter Try.func78, Try.ntmps78
  go_wp2_with ((with_reducible refine gate_dst (N := 2) rfl ?_); refine bT (N := 2) (#[.slice A n c, .int .i64 start]) 97 ?_; intro g2 hg W2 hbox hb; have B2 := Aside0.mk hbox; have HB := Aside0.mk hb; have HG := Aside0.mk (show w.heap.size ≤ g2 by rw [hg]; exact Nat.le_refl _); clear hbox hb hg)
  go_ret
  exact ⟨_, rfl, B2.out, HG.out, HB.out⟩
 rw [if_neg h2]
 have b2 : (kk == 2) = false := beq_eq_false_iff_ne.mpr h2
 clear h2
 go_enter Try.func78, Try.ntmps78
 go_wp2_with ((with_reducible refine gate_dst (N := 2) rfl ?_); refine bT (N := 2) (#[.slice A n c, .int .i64 start]) 97 ?_; intro g2 hg W2 hbox hb; have B2 := Aside0.mk hbox; have HB := Aside0.mk hb; have HG := Aside0.mk (show w.heap.size ≤ g2 by rw [hg]; exact Nat.le_refl _); clear hbox hb hg)
 go_ret
 exact ⟨_, rfl, B2.out, HG.out, HB.out⟩
set_option maxHeartbeats 8000000 in
set_option maxRecDepth 100000 in
theorem update.calls (kk : Int) (A : Option Addr) (n c : Nat) (start : Int) (w : World) :
  Calls Try.prog 79 #[.agg #[.slice A n c, .int .i64 start], .int .i64 kk] w fun e w' => ∃ g, e = .returned (.func (.func (updN kk)) #[] #[.pointer (some ⟨g, 0, none⟩)]) ∧ w'.heap[g]? = some (.cells #[.slice A n c, .int .i64 start] 97 (0, 0)) ∧ w.heap.size ≤ g ∧ Below w.heap.size w w' := by
 have hmf : ∀ (fn : Fn) (first cap : Array Value) (w : World), (Instr.makeFunc fn first cap).run Try.prog w = .ok (.func fn first cap) w := fun _ _ _ _ => rfl
 unfold updN
 by_cases h1 : kk = 1
 ·rw [if_pos h1]
  have b1 : (kk == 1) = true := beq_iff_eq.mpr h1
  clear h1
  go_enter Try.func79, Try.ntmps79
  go_wp2_with ((with_reducible refine gate_dst (N := 2) rfl ?_); refine bT (N := 2) (#[.slice A n c, .int .i64 start]) 97 ?_; intro g2 hg W2 hbox hb; have B2 := Aside0.mk hbox; have HB := Aside0.mk hb; have HG := Aside0.mk (show w.heap.size ≤ g2 by rw [hg]; exact Nat.le_refl _); clear hbox hb hg)
  go_ret
  exact ⟨_, rfl, B2.out, HG.out, HB.out⟩
 rw [if_neg h1]
 have b1 : (kk == 1) = false := beq_eq_false_iff_ne.mpr h1
 clear h1
 go_enter Try.func79, Try.ntmps79
 go_wp2_with ((with_reducible refine gate_dst (N := 2) rfl ?_); refine bT (N := 2) (#[.slice A n c, .int .i64 start]) 97 ?_; intro g2 hg W2 hbox hb; have B2 := Aside0.mk hbox; have HB := Aside0.mk hb; have HG := Aside0.mk (show w.heap.size ≤ g2 by rw [hg]; exact Nat.le_refl _); clear hbox hb hg)
 go_ret
 exact ⟨_, rfl, B2.out, HG.out, HB.out⟩
/-- How many even places there are. -/
def cntE (s n : Int) : Int := wrap64 (wrap64 (Int.tdiv (wrap64 (wrap64 (s + n) + 1)) 2) - wrap64 (Int.tdiv (wrap64 (s + 1)) 2))
set_option maxHeartbeats 8000000 in
set_option maxRecDepth 100000 in
theorem below_fn (x : Int) (w : World) : Calls Try.prog 91 #[.int .i64 x] w fun e w' => e = .returned (.int .i64 (wrap64 (Int.tdiv (wrap64 (x + 1)) 2))) ∧ w' = w := by
 go_enter Try.func91, Try.ntmps91
 go_wp2
 go_ret
 exact ⟨rfl, rfl⟩
set_option maxHeartbeats 8000000 in
set_option maxRecDepth 100000 in
theorem extend_Counts.good (s n : Int) (h0 : 0 ≤ s) (h1 : s ≤ 4096) (h2 : 0 ≤ n) (h3 : n ≤ 4096) (w : World) : Calls Try.prog 90 #[.int .i64 s, .int .i64 n] w fun e w' => e = .returned (.tuple #[.int .i64 (cntE s n), .int .i64 (wrap64 (n - cntE s n))]) ∧ w' = w := by
 have b0 : decide (s < 0) = false := decide_eq_false (by omega)
 have b1 : decide (4096 < s) = false := decide_eq_false (by omega)
 have b2 : decide (n < 0) = false := decide_eq_false (by omega)
 have b3 : decide (4096 < n) = false := decide_eq_false (by omega)
 clear h0 h1 h2 h3
 go_enter Try.func90, Try.ntmps90
 go_wp2_with (go_at_call 91; (with_reducible refine (below_fn _ _).mono ?_); rintro _ w1 ⟨rfl, hq⟩; have hq' := hq.symm; clear hq; subst hq')
 go_ret2
 exact ⟨rfl, rfl⟩
/-- make([]T, n, c) in a drawn region. -/
theorem R_make_cap_step {P : Program} {ops : Array Oper} {o : Oper} {a : Act} {Q : Exit → Act → World → Prop} {Kc : Act → World → Prop} {α : Type} (d : Kd α) {w0 W : World} (base e : Nat) (hw : Region.wanted o (yielded ops a.tmps) = true) {N : Tmp} (hd : o.dst = some N) (t : TypeId) (x y : Operand) (ho : o.op = .makeSlice t x y) (kx ky : IntKind) (n c : Int) (hx : a.eval x = .int kx n) (hy : a.eval y = .int ky c)
  (ht : P.underlying t = some (.slice e)) (z : Value) (bytes : Nat) (hinfo : (P.info? e).map (fun i => (i.zero, i.size, i.bytes)) = some (some z, d.sz, bytes)) (hz : z.cells.size = d.sz) (hs0 : 0 < d.sz) (hb0 : 0 < bytes)
  (z0 : α) {ok okp : Nat → Prop} (hzero : d.M W base okp z0 z.cells.toList) (hok : ∀ k, okp k → ok k) (hfresh : ok W.heap.size) (h0 : 0 ≤ n) (hnc : n ≤ c) (hl : c.toNat * bytes ≤ 281474976710656) (HB : Below base w0 W) (hbase : base ≤ W.heap.size)
  (h : ∀ v1 w1, d.R e w1 base ok v1 (List.replicate n.toNat z0) → Below base w0 w1 → Below W.heap.size W w1 → (∃ b, v1.ownBlock = some b ∧ W.heap.size ≤ b) → Kc (a.put o.dst v1) w1) : if Region.wanted o (yielded ops a.tmps) = true then Oper.wp P o a W Kc Q else Kc (a.put o.dst undef) W := by
 obtain ⟨m, rfl⟩ := Int.eq_ofNat_of_zero_le h0
 obtain ⟨q, rfl⟩ := Int.eq_ofNat_of_zero_le (show 0 ≤ c by omega)
 simp only [Int.toNat_natCast] at hl h
 obtain ⟨i0, hi, hzz⟩ := Option.map_eq_some_iff.1 hinfo
 simp only [Prod.mk.injEq] at hzz
 obtain ⟨hz0, hz1, hz2⟩ := hzz
 have hm : q ≤ 281474976710656 := Nat.le_trans (Nat.le_mul_of_pos_right _ hb0) hl
 have hr := run_make (P := P) W t e i0 z ht hi hz0 kx ky (m : Int) (q : Int) (by omega) hnc
  (by
   have h3 : ((i0.bytes * q : Nat) : Int) ≤ 281474976710656 := by rw [hz2, Nat.mul_comm]; omega
   rwa [Int.natCast_mul] at h3) (by omega)
 simp only [Int.toNat_natCast] at hr
 rw [hz1] at hr
 refine event_step hw (by simp [execOp, ho, hx, hy, hr]) (h _ _ (Kd.R_made d base e bytes z hz hs0 hb0 z0 hzero hok hfresh hbase m q (by omega) hl) (HB.alloc hbase _) (below_alloc (Below.refl _ _) _) ⟨W.heap.size, by simp [Value.ownBlock], Nat.le_refl _⟩)
/-- The numbers at even and at odd places, behind lo and hi. -/
def splitF (start : Int) (xs : List Int) : Nat → Int → List Int → List Int → Option (List Int × List Int)
 | 0, _, _, _ => none
 | k + 1, i, lo, hi => if i < (xs.length : Int) then (if 0 ≤ i then (if lo.length < 1000000 ∧ hi.length < 1000000 then (if Int.tmod (wrap64 (start + i)) 2 = 0 then splitF start xs k (wrap64 (i + 1)) (lo ++ [rd xs i]) hi else splitF start xs k (wrap64 (i + 1)) lo (hi ++ [rd xs i])) else none) else none) else some (lo, hi)
theorem cntE_eq {s n : Int} (h0 : 0 ≤ s) (h1 : s ≤ 4096) (h2 : 0 ≤ n) (h3 : n ≤ 4096) : cntE s n = (s + n + 1) / 2 - (s + 1) / 2 := by
 unfold cntE
 rw [show wrap64 (wrap64 (s + n) + 1) = s + n + 1 by unfold wrap64; omega, show wrap64 (s + 1) = s + 1 by unfold wrap64; omega, Int.tdiv_eq_ediv_of_nonneg (by omega), Int.tdiv_eq_ediv_of_nonneg (by omega)]
 unfold wrap64
 omega
set_option maxHeartbeats 8000000 in
set_option maxRecDepth 100000 in
theorem extend_Split.good (k : Nat) (A : Option Addr) (c : Nat) (xs : List Int) (start : Int) (lo hi : List Int) (w : World) (hr : Kd.C (Kd.int .i64) w A xs.length xs) (h0 : 0 ≤ start) (h1 : start ≤ 4096) (hl : xs.length ≤ 4096) (h : splitF start xs k 0 [] [] = some (lo, hi)) :
  Calls Try.prog 80 #[.slice A xs.length c, .int .i64 start] w fun e w' => ∃ v1 v2, e = .returned (.tuple #[v1, v2, .int .i64 0]) ∧ Kd.R (Kd.int .i64) 3 w' w.heap.size (fun _ => True) v1 lo ∧ Kd.R (Kd.int .i64) 3 w' w.heap.size (fun _ => True) v2 hi ∧ Below w.heap.size w w' := by
 have H := Aside0.mk h
 have HR := Aside0.mk hr
 have b0 : decide (start < 0) = false := decide_eq_false (by omega)
 have b1 : decide (4096 < start) = false := decide_eq_false (by omega)
 have b2 : decide (4096 < (xs.length : Int)) = false := decide_eq_false (by omega)
 have b3 : decide (4096 < xs.length) = false := decide_eq_false (by omega)
 have HQ := Aside0.mk (fun W : World => extend_Counts.good start (xs.length : Int) h0 h1 (by omega) (by omega) W)
 have HZ := Aside0.mk (show (0 ≤ cntE start (xs.length : Int) ∧ cntE start (xs.length : Int) ≤ 4096) ∧ (0 ≤ wrap64 ((xs.length : Int) - cntE start (xs.length : Int)) ∧ wrap64 ((xs.length : Int) - cntE start (xs.length : Int)) ≤ 4096) by
  rw [cntE_eq h0 h1 (by omega) (by omega)]
  unfold wrap64
  omega)
 clear h hr h0 h1 hl
 go_enter Try.func80, Try.ntmps80
 go_upto_region 4 with (go_at_call 90; (with_reducible refine (HQ.out _).mono ?_); rintro _ w1 ⟨rfl, hq⟩; have hq' := hq.symm; clear hq; subst hq')
 clear b0 b1 b2 b3 HQ
 go_cut [4, 5] (fun v4 v5 wc => Aside0 (Kd.R (Kd.int .i64) 3 wc w.heap.size (fun k => True ∧ some k ≠ v5.ownBlock) v4 []) ∧ Aside0 (Kd.R (Kd.int .i64) 3 wc w.heap.size (fun k => True ∧ some k ≠ v4.ownBlock) v5 []) ∧ Aside0 (Below w.heap.size w wc))
 case first =>
  have BW := Aside0.mk (below_drew1 (Below.refl w.heap.size w))
  refine start_ (n := 6) (S := fun w' => True) (ds := []) #[false, false, false, false, false, false] (by kernel_rfl) rfl rfl trivial (fun hHeld0 => ?_)
  generalize hw1 : w.drew = w1 at *
  clear hw1
  have hHeld := Aside0.mk hHeld0
  clear hHeld0
  refine pT (i := 0) (N := some 29) ?_
  refine pT (i := 2) (N := some 31) ?_
  refine two_ (i := 1) (j := 3) (Ni := some 30) (Nj := some 32) #[true, true, true, false, false, false] #[true, false, true, true, false, false] rfl rfl rfl rfl (by kernel_rfl) (by decide) (by decide) (fun K hK => ?_) (fun K hK => ?_)
  ·skip
   refine R_make_cap_step (Kd.int .i64) (w0 := w) w.heap.size 3 (by rfl) (N := 30) rfl 24 (.const (.int .i64 0)) (.tmp 29) rfl .i64 .i64 0 (cntE start (xs.length : Int)) rfl rfl Try.underlying24 (.int .i64 0) 8 info3 rfl (by decide) (by omega) (0 : Int) (okp := fun _ => False) (ok := fun _ => True) rfl (fun _ h => h.elim) trivial (by omega) (by have := HZ.out; omega) (by have := HZ.out; omega) BW.out (below_size BW.out) ?_
   intro va w2 ho hb hb2 hat
   have HA := Aside0.mk ho
   have BW' := Aside0.mk hb
   clear BW ho hb hb2 hat
   have BW := BW'
   clear BW'
   refine hK.out _ _ trivial (fun hHeld => ?_)
   clear hK K
   refine nT ?_
   refine pT (i := 4) (N := some 4) ?_
   refine one_ (i := 3) (N := some 32) #[true, true, true, true, true, false] rfl rfl (by kernel_rfl) (by decide) (fun K hK => ?_)
   refine R_make_cap_step (Kd.int .i64) (w0 := w2) w2.heap.size 3 (by rfl) (N := 32) rfl 24 (.const (.int .i64 0)) (.tmp 31) rfl .i64 .i64 0 (wrap64 ((xs.length : Int) - cntE start (xs.length : Int))) rfl rfl Try.underlying24 (.int .i64 0) 8 info3 rfl (by decide) (by omega) (0 : Int) (okp := fun _ => False) (ok := fun _ => True) rfl (fun _ h => h.elim) trivial (by omega) (by have := HZ.out; omega) (by have := HZ.out; omega) (Below.refl _ _) (Nat.le_refl _) ?_
   intro vb w3 ho hb hb2 hat
   have HP := Aside0.mk (Kd.R_elder HA.out ho hb)
   have HQ := Aside0.mk (Kd.R_lower (Kd.R_newR ho HA.out) (below_size BW.out))
   have BW' := Aside0.mk (BW.out.trans (hb.mono (below_size BW.out)))
   clear BW ho hb hb2 hat HA
   have BW := BW'
   clear BW'
   refine hK.out _ _ trivial (fun hHeld => ?_)
   clear hK K
   refine nT ?_
   refine pT (i := 5) (N := some 5) ?_
   refine done_ (by kernel_rfl) ?_
   go_wp2
   go_meet
   case rel => exact ⟨HP, HQ, BW⟩
  ·skip
   refine R_make_cap_step (Kd.int .i64) (w0 := w) w.heap.size 3 (by rfl) (N := 32) rfl 24 (.const (.int .i64 0)) (.tmp 31) rfl .i64 .i64 0 (wrap64 ((xs.length : Int) - cntE start (xs.length : Int))) rfl rfl Try.underlying24 (.int .i64 0) 8 info3 rfl (by decide) (by omega) (0 : Int) (okp := fun _ => False) (ok := fun _ => True) rfl (fun _ h => h.elim) trivial (by omega) (by have := HZ.out; omega) (by have := HZ.out; omega) BW.out (below_size BW.out) ?_
   intro va w2 ho hb hb2 hat
   have HA := Aside0.mk ho
   have BW' := Aside0.mk hb
   clear BW ho hb hb2 hat
   have BW := BW'
   clear BW'
   refine hK.out _ _ trivial (fun hHeld => ?_)
   clear hK K
   refine nT ?_
   refine one_ (i := 1) (N := some 30) #[true, true, true, true, false, false] rfl rfl (by kernel_rfl) (by decide) (fun K hK => ?_)
   refine R_make_cap_step (Kd.int .i64) (w0 := w2) w2.heap.size 3 (by rfl) (N := 30) rfl 24 (.const (.int .i64 0)) (.tmp 29) rfl .i64 .i64 0 (cntE start (xs.length : Int)) rfl rfl Try.underlying24 (.int .i64 0) 8 info3 rfl (by decide) (by omega) (0 : Int) (okp := fun _ => False) (ok := fun _ => True) rfl (fun _ h => h.elim) trivial (by omega) (by have := HZ.out; omega) (by have := HZ.out; omega) (Below.refl _ _) (Nat.le_refl _) ?_
   intro vb w3 ho hb hb2 hat
   have HP := Aside0.mk (Kd.R_elder HA.out ho hb)
   have HQ := Aside0.mk (Kd.R_lower (Kd.R_newR ho HA.out) (below_size BW.out))
   have BW' := Aside0.mk (BW.out.trans (hb.mono (below_size BW.out)))
   clear BW ho hb hb2 hat HA
   have BW := BW'
   clear BW'
   refine hK.out _ _ trivial (fun hHeld => ?_)
   clear hK K
   refine nT ?_
   refine pT (i := 4) (N := some 4) ?_
   refine pT (i := 5) (N := some 5) ?_
   refine done_ (by kernel_rfl) ?_
   go_wp2
   go_meet
   case rel => exact ⟨HQ, HP, BW⟩
 case rest =>
 obtain ⟨HL, HH, BW⟩ := hcut
 clear HZ
 go_wp2
 go_loopg [4, 5, 35] k (fun kq v4 v5 v35 w' => ∃ (i : Int) (lo' hi' : List Int), v35 = .int .i64 i ∧ Aside0 (splitF start xs kq i lo' hi' = some (lo, hi)) ∧ Aside0 (Kd.R (Kd.int .i64) 3 w' w.heap.size (fun k => True ∧ some k ≠ v5.ownBlock) v4 lo') ∧ Aside0 (Kd.R (Kd.int .i64) 3 w' w.heap.size (fun k => True ∧ some k ≠ v4.ownBlock) v5 hi') ∧ Aside0 (Below w.heap.size w w'))
 case atStart => exact ⟨0, [], [], rfl, H, HL, HH, BW⟩
 case round =>
 clear H HL HH BW
 obtain ⟨i, lo', hi', rfl, HX, HL, HH, BW⟩ := hrel
 cases gk with
 | zero => exact absurd HX.out (by simp [splitF])
 | succ kk =>
 have hs := HX.out
 clear HX
 rw [splitF.eq_2] at hs
 by_cases hi : i < (xs.length : Int)
 rotate_left
 ·rw [if_neg hi] at hs
  have hb0 : decide (i < (xs.length : Int)) = false := decide_eq_false hi
  simp only [Option.some.injEq, Prod.mk.injEq] at hs
  obtain ⟨rfl, rfl⟩ := hs
  clear hi
  go_wp2
  go_ret3
  exact ⟨_, _, rfl, Kd.R_mono HL.out (fun _ _ => trivial), Kd.R_mono HH.out (fun _ _ => trivial), BW.out⟩
 rw [if_pos hi] at hs
 by_cases hi0 : 0 ≤ i
 rotate_left
 ·rw [if_neg hi0] at hs
  cases hs
 rw [if_pos hi0] at hs
 by_cases hlim : lo'.length < 1000000 ∧ hi'.length < 1000000
 rotate_left
 ·rw [if_neg hlim] at hs
  cases hs
 rw [if_pos hlim] at hs
 have HLIM := Aside0.mk hlim
 obtain ⟨A4, c4, rfl⟩ := Kd.R_slice HL.out
 obtain ⟨A5, c5, rfl⟩ := Kd.R_slice HH.out
 obtain ⟨ad, e0, hx⟩ := Kd.at_int (Kd.C_below HR.out BW.out) i hi0 hi
 subst e0
 have hb0 : decide (i < (xs.length : Int)) = true := decide_eq_true hi
 have p0 : (0 ≤ i) = True := eq_true hi0
 have p1 : (i < (xs.length : Int)) = True := eq_true hi
 clear hi hi0 hlim
 by_cases hp : Int.tmod (wrap64 (start + i)) 2 = 0
 ·rw [if_pos hp] at hs
  have HX := Aside0.mk hs
  have hb1 : (Int.tmod (wrap64 (start + i)) 2 == 0) = true := beq_iff_eq.mpr hp
  clear hs hp
  go_wp2_with (first | ((with_reducible refine gate_builtin (b := .append) (xs := #[.tmp 45, .tmp 47]) rfl ?_); at_builtin; refine Kd.R_append (Kd.int .i64) (w0 := w) w.heap.size rfl (.tmp 45) (.tmp 47) 24 3 (.int .i64 0) 8 rfl Try.underlying24 info3 rfl (by decide) (by omega) (.slice A4 lo'.length c4) lo' (rd xs i) [.int .i64 (rd xs i)] (fun k => True ∧ some k ≠ ((.slice A5 hi'.length c5) : Value).ownBlock) (fun _ => False) rfl rfl ?aP (fun _ hk => hk.elim) ?aF ?aO ?aB ?aS ?aL ?_; (case aP => exact rfl); (case aF => exact fun k hk => ⟨trivial, fun e => by have := Kd.R_lt HH.out k e.symm; omega⟩); (case aO => exact HL.out); (case aB => exact BW.out); (case aS => exact below_size BW.out); (case aL => have := HLIM.out; omega); intro vn w7 ho hb hg hat; have HO1 := Aside0.mk ho; have HO2 := Aside0.mk (Kd.R_after HH.out hg hat); have BW' := Aside0.mk hb; clear ho hb hg hat hx BW HL HH; have BW := BW'; clear BW'))
  go_roundg kk
  case measure => omega
  case rel => exact ⟨_, _, _, rfl, HX, HO1, HO2, BW⟩
 ·rw [if_neg hp] at hs
  have HX := Aside0.mk hs
  have hb1 : (Int.tmod (wrap64 (start + i)) 2 == 0) = false := beq_eq_false_iff_ne.mpr hp
  clear hs hp
  go_wp2_with (first | ((with_reducible refine gate_builtin (b := .append) (xs := #[.tmp 49, .tmp 51]) rfl ?_); at_builtin; refine Kd.R_append (Kd.int .i64) (w0 := w) w.heap.size rfl (.tmp 49) (.tmp 51) 24 3 (.int .i64 0) 8 rfl Try.underlying24 info3 rfl (by decide) (by omega) (.slice A5 hi'.length c5) hi' (rd xs i) [.int .i64 (rd xs i)] (fun k => True ∧ some k ≠ ((.slice A4 lo'.length c4) : Value).ownBlock) (fun _ => False) rfl rfl ?aP (fun _ hk => hk.elim) ?aF ?aO ?aB ?aS ?aL ?_; (case aP => exact rfl); (case aF => exact fun k hk => ⟨trivial, fun e => by have := Kd.R_lt HL.out k e.symm; omega⟩); (case aO => exact HH.out); (case aB => exact BW.out); (case aS => exact below_size BW.out); (case aL => have := HLIM.out; omega); intro vn w7 ho hb hg hat; have HO1 := Aside0.mk ho; have HO2 := Aside0.mk (Kd.R_after HL.out hg hat); have BW' := Aside0.mk hb; clear ho hb hg hat hx BW HL HH; have BW := BW'; clear BW'))
  go_roundg kk
  case measure => omega
  case rel => exact ⟨_, _, _, rfl, HX, HO2, HO1, BW⟩
end Go.Proofs.Ytcnpekpgghppnaa.Q
namespace Go.Proofs.Ytcnpekpgghppnaa.Q
open Go.RowKit Go.Proofs.YtcnpekpgghppnaaW.PrintWords Go.Proofs.YtcnpekpgghppnaaW.PrintLast Go.Proofs.YtcnpekpgghppnaaW.PrintMore
attribute [local go_sem] max2_int min2_int max_two min_two max_three min_three max_four min_four
set_option linter.unusedVariables false
set_option linter.unusedSimpArgs false
def lift_known.f (a0 : Int) : Option (Bool) := if a0 ≥ 1 then (some (decide (a0 ≤ 3))) else (some false)
set_option maxHeartbeats 8000000 in
set_option maxRecDepth 100000 in
theorem lift_known.calls (a0 : Int) (r : Bool) (w : World) (h : lift_known.f a0 = some r) :
  Calls Try.prog 75 #[.int .i64 a0] w fun e w' => e = .returned (.bool r) ∧ Drawn0 w w' := by
 have H : (if a0 ≥ 1 then (some (decide (a0 ≤ 3))) else (some false)) = some r := h
 clear h
 by_cases c2 : a0 ≥ 1
 ·rw [if_pos c2] at H
  have c2b0 : decide (1 ≤ a0) = true := decide_eq_true c2
  clear c2
  obtain rfl := Option.some.inj H
  go_enter Try.func75, Try.ntmps75
  go_wp2
  go_ret
  exact ⟨by first | rfl | (simp; done) | (simp [*]; done), by repeat (first | exact Drawn0.refl _ | apply Drawn0.step)⟩
 ·rw [if_neg c2] at H
  have c2b0 : decide (1 ≤ a0) = false := decide_eq_false c2
  clear c2
  obtain rfl := Option.some.inj H
  go_enter Try.func75, Try.ntmps75
  go_wp2
  go_ret
  exact ⟨by first | rfl | (simp; done) | (simp [*]; done), by repeat (first | exact Drawn0.refl _ | apply Drawn0.step)⟩
end Go.Proofs.Ytcnpekpgghppnaa.Q
namespace Go.Proofs.Ytcnpekpgghppnaa.Q
open Go.RowKit Go.Proofs.YtcnpekpgghppnaaW.PrintWords Go.Proofs.YtcnpekpgghppnaaW.PrintLast Go.Proofs.YtcnpekpgghppnaaW.PrintMore
attribute [local go_sem] max2_int min2_int max_two min_two max_three min_three max_four min_four
set_option linter.unusedVariables false
set_option linter.unusedSimpArgs false
def lift_bounded.l0 : Nat → Int → List Int → Int → Int → Option (Bool)
 | 0, _, _, _, _ => none
 | k + 1, x1, x7, x8, x9 => if x9 < x8 then (if 0 ≤ x9 then (if x9 < (x7.length : Int) then (if (rd x7 x9) < (wrap64 (-x1)) then (some false) else (if (rd x7 x9) > x1 then (some false) else (lift_bounded.l0 k x1 x7 x8 (wrap64 (x9 + 1))))) else (none)) else (none)) else (some true)
def lift_bounded.f (k : Nat) (l0 : List Int) (a1 : Int) : Option (Bool) := lift_bounded.l0 k a1 l0 (l0.length : Int) 0
set_option maxHeartbeats 8000000 in
set_option maxRecDepth 100000 in
theorem lift_bounded.calls (k : Nat) (A0 : Option Addr) (c0 : Nat) (l0 : List Int) (a1 : Int) (r : Bool) (w : World) (hr0 : Kd.C (Kd.int .i64) w A0 l0.length l0) (hc0 : l0.length ≤ c0) (h : lift_bounded.f k l0 a1 = some r) :
  Calls Try.prog 76 #[.slice A0 l0.length c0, .int .i64 a1] w fun e w' => e = .returned (.bool r) ∧ Drawn0 w w' := by
 have HR0 := Aside0.mk hr0
 have HC0 := Aside0.mk hc0
 clear hr0 hc0
 have H : (lift_bounded.l0 k a1 l0 (l0.length : Int) 0) = some r := h
 clear h
 have H' := Aside0.mk H
 clear H
 go_enter Try.func76, Try.ntmps76
 go_wp2
 go_loopg [9] k (fun kq v9 w' => ∃ (x9_1 : Int), v9 = .int .i64 x9_1 ∧ Aside0 (lift_bounded.l0 kq a1 l0 (l0.length : Int) x9_1 = some r) ∧ Aside0 (kq ≤ k) ∧ Drawn0 w w')
 case atStart => exact ⟨(0), (by first | rfl | (simp; done) | (simp [*]; done)), H', ⟨Nat.le_refl _⟩, by repeat (first | exact Drawn0.refl _ | apply Drawn0.step)⟩
 case round =>
  clear H'
  try clear p2
  obtain ⟨x9_1, rfl, HA, HK1, ⟨m1, rfl⟩⟩ := hrel
  cases gk with
  | zero => exact absurd HA.out (by simp [lift_bounded.l0])
  | succ k1 =>
   have H := HA.out
   clear HA
   simp only [lift_bounded.l0] at H
   by_cases c3 : x9_1 < (l0.length : Int)
   ·rw [if_pos c3] at H
    have c3b0 : decide (x9_1 < (l0.length : Int)) = true := decide_eq_true c3
    clear c3
    by_cases c4 : 0 ≤ x9_1
    ·rw [if_pos c4] at H
     have c4b0 : decide (0 ≤ x9_1) = true := decide_eq_true c4
     clear c4
     by_cases c5 : x9_1 < (l0.length : Int)
     ·rw [if_pos c5] at H
      have c5b0 : decide (x9_1 < (l0.length : Int)) = true := decide_eq_true c5
      clear c5
      by_cases c6 : (rd l0 x9_1) < (wrap64 (-a1))
      ·rw [if_pos c6] at H
       have c6b0 : decide ((rd l0 x9_1) < (wrap64 (-a1))) = true := decide_eq_true c6
       clear c6
       obtain rfl := Option.some.inj H
       have p130 : 0 ≤ (x9_1 : Int) := of_decide_eq_true (by first | (with_reducible assumption) | assumption)
       have q130 : x9_1 < (l0.length : Int) := of_decide_eq_true (by first | (with_reducible assumption) | assumption)
       obtain ⟨ad130, e130, hx130_0⟩ := Kd.at_int HR0.out x9_1 p130 q130
       cases e130
       replace p130 := eq_true p130
       replace q130 := eq_true q130
       go_wp2
       go_ret
       exact ⟨by first | rfl | (simp; done) | (simp [*]; done), by repeat (first | exact Drawn0.refl _ | apply Drawn0.step)⟩
      ·rw [if_neg c6] at H
       have c6b0 : decide ((rd l0 x9_1) < (wrap64 (-a1))) = false := decide_eq_false c6
       clear c6
       by_cases c7 : (rd l0 x9_1) > a1
       ·rw [if_pos c7] at H
        have c7b0 : decide (a1 < (rd l0 x9_1)) = true := decide_eq_true c7
        clear c7
        obtain rfl := Option.some.inj H
        have p130 : 0 ≤ (x9_1 : Int) := of_decide_eq_true (by first | (with_reducible assumption) | assumption)
        have q130 : x9_1 < (l0.length : Int) := of_decide_eq_true (by first | (with_reducible assumption) | assumption)
        obtain ⟨ad130, e130, hx130_0⟩ := Kd.at_int HR0.out x9_1 p130 q130
        cases e130
        replace p130 := eq_true p130
        replace q130 := eq_true q130
        go_wp2
        go_ret
        exact ⟨by first | rfl | (simp; done) | (simp [*]; done), by repeat (first | exact Drawn0.refl _ | apply Drawn0.step)⟩
       ·rw [if_neg c7] at H
        have c7b0 : decide (a1 < (rd l0 x9_1)) = false := decide_eq_false c7
        clear c7
        have H' := Aside0.mk H
        clear H
        have p130 : 0 ≤ (x9_1 : Int) := of_decide_eq_true (by first | (with_reducible assumption) | assumption)
        have q130 : x9_1 < (l0.length : Int) := of_decide_eq_true (by first | (with_reducible assumption) | assumption)
        obtain ⟨ad130, e130, hx130_0⟩ := Kd.at_int HR0.out x9_1 p130 q130
        cases e130
        replace p130 := eq_true p130
        replace q130 := eq_true q130
        go_wp2
        go_roundg k1
        case measure => have := HK1.out; omega
        case rel => exact ⟨(wrap64 (x9_1 + 1)), (by first | rfl | (simp; done) | (simp [*]; done)), H', ⟨by have := HK1.out; omega⟩, by repeat (first | exact Drawn0.refl _ | apply Drawn0.step)⟩
     ·rw [if_neg c5] at H
      exact absurd H (by simp)
    ·rw [if_neg c4] at H
     exact absurd H (by simp)
   ·rw [if_neg c3] at H
    have c3b0 : decide (x9_1 < (l0.length : Int)) = false := decide_eq_false c3
    clear c3
    obtain rfl := Option.some.inj H
    go_wp2
    go_ret
    exact ⟨by first | rfl | (simp; done) | (simp [*]; done), by repeat (first | exact Drawn0.refl _ | apply Drawn0.step)⟩
end Go.Proofs.Ytcnpekpgghppnaa.Q
namespace Go.Proofs.Ytcnpekpgghppnaa.Q
open Go.RowKit Go.Proofs.YtcnpekpgghppnaaW.PrintWords Go.Proofs.YtcnpekpgghppnaaW.PrintLast Go.Proofs.YtcnpekpgghppnaaW.PrintMore
set_option linter.unusedVariables false
set_option linter.unusedSimpArgs false
theorem Bks.kept {n : Nat} {w0 W W' : World} {l : List (Nat × Nat × Array Value)} {S : Nat → Prop} (h : Bks n w0 W l) (hk : Kept W W' S) (hS : ∀ (i : Nat) (b : Nat × Nat × Array Value), l[i]? = some b → ¬ S b.1) (hB : Below n w0 W') : Bks n w0 W' l :=
 ⟨fun i b hi => blk_kept (h.blk i b hi) hk (hS i b hi), h.ne, h.ge, hB⟩
theorem Bks.kept1 {n : Nat} {w0 W W' : World} {g t a : Nat} {cs : Array Value} (h : Bks n w0 W [(g, t, cs)]) (hk : Kept W W' (fun k => k = a)) (hS : g ≠ a) (hB : Below n w0 W') : Bks n w0 W' [(g, t, cs)] :=
 h.kept hk (fun i b hi => by
  match i, hi with
  | 0, hi => cases hi; exact hS
  | i + 1, hi => simp at hi) hB
/-- The low and the high half of a line. -/
def fwdF (kk : Int) (k : Nat) (start : Int) (xs : List Int) : Option (List Int × List Int) :=
 if 1 < (xs.length : Int) then (stepF (prF kk k) start 1 (-1) k 0 xs).bind fun y => (stepF (upF kk k) start 0 1 k 0 y).bind fun z => splitF start z k 0 [] [] else splitF start xs k 0 [] []
theorem stepF_length {fq : List Int → Int → Option Int} {start par sg : Int} : ∀ {k : Nat} {i : Int} {xs ys : List Int}, stepF fq start par sg k i xs = some ys → ys.length = xs.length
 | 0, _, _, _, h => by simp [stepF] at h
 | k + 1, i, xs, ys, h => by
  rw [stepF.eq_2] at h
  split at h
  ·split at h
   ·split at h
    ·obtain ⟨v, _, h⟩ := Option.bind_eq_some_iff.mp h
     have := stepF_length h
     rwa [List.length_set] at this
    ·exact stepF_length h
   ·cases h
  ·rw [Option.some.inj h]
theorem bks_one {n g t : Nat} {w0 W W' : World} {cs : Array Value} (hg : g = W.heap.size) (hbox : W'.heap[g]? = some (.cells cs t (0, 0))) (hB : Below n w0 W') (hn : n ≤ g) : Bks n w0 W' [(g, t, cs)] :=
 ⟨fun i b hi => by
  match i, hi with
  | 0, hi => cases hi; exact hbox
  | i + 1, hi => simp at hi, fun i j b c hij hi hj => by
  match i, hi, j, hj with
  | 0, hi, 0, hj => exact absurd rfl hij
  | 0, hi, j + 1, hj => simp at hj
  | i + 1, hi, _, _ => simp at hi, fun i b hi => by
  match i, hi with
  | 0, hi => cases hi; exact hn
  | i + 1, hi => simp at hi, hB⟩
set_option maxHeartbeats 8000000 in
set_option maxRecDepth 100000 in
theorem lift_Forward.good (k kb : Nat) (kk : Int) (A : Option Addr) (c : Nat) (xs : List Int) (start : Int) (lo hi : List Int) (w : World) (hr : Kd.C (Kd.int .i64) w A xs.length xs) (hc : xs.length ≤ c) (hk1 : 1 ≤ kk) (hk3 : kk ≤ 3) (h0 : 0 ≤ start) (h1 : start ≤ 4096) (hl : xs.length ≤ 4096) (hbd : lift_bounded.f kb xs 281474976710656 = some true) (h : fwdF kk k start xs = some (lo, hi)) :
  Calls Try.prog 59 #[.slice A xs.length c, .int .i64 start, .int .i64 kk] w fun e w' => ∃ v1 v2, e = .returned (.tuple #[v1, v2, .int .i64 0]) ∧ Kd.R (Kd.int .i64) 3 w' w.heap.size (fun _ => True) v1 lo ∧ Kd.R (Kd.int .i64) 3 w' w.heap.size (fun _ => True) v2 hi ∧ Below w.heap.size w w' := by
 have HR := Aside0.mk hr
 have HC := Aside0.mk hc
 have HLN := Aside0.mk hl
 have HST := Aside0.mk (And.intro h0 h1)
 have HBD := Aside0.mk hbd
 have HKN := Aside0.mk (show lift_known.f kk = some true by unfold lift_known.f; rw [if_pos (by omega), decide_eq_true hk3])
 have b0 : decide (start < 0) = false := decide_eq_false (by omega)
 have b1 : decide (4096 < start) = false := decide_eq_false (by omega)
 have b2 : decide (4096 < (xs.length : Int)) = false := decide_eq_false (by omega)
 have b3 : decide (4096 < xs.length) = false := decide_eq_false (by omega)
 have BW := Aside0.mk (Below.refl w.heap.size w)
 unfold fwdF at h
 clear hr hc h0 h1 hl hbd hk1 hk3
 go_enter Try.func59, Try.ntmps59
 by_cases hlen : 1 < (xs.length : Int)
 rotate_left
 ·rw [if_neg hlen] at h
  have H := Aside0.mk h
  have b4 : decide (1 < (xs.length : Int)) = false := decide_eq_false hlen
  have b5 : decide (1 < xs.length) = false := decide_eq_false (by omega)
  have HLY := Aside0.mk (show xs.length ≤ xs.length from Nat.le_refl _)
  clear h hlen
  go_wp2_with (first
  | (go_at_call 75; (with_reducible refine (lift_known.calls _ true _ HKN.out).mono ?_); rintro _ w1 ⟨rfl, hq⟩; have BW' := Aside0.mk (BW.out.trans (hq.below.mono BW.out.size)); clear BW hq; have BW := BW'; clear BW')
  | (go_at_call 76; (with_reducible refine (lift_bounded.calls kb A c xs 281474976710656 true _ (Kd.C_below HR.out BW.out) HC.out HBD.out).mono ?_); rintro _ w2 ⟨rfl, hq⟩; have BW' := Aside0.mk (BW.out.trans (hq.below.mono BW.out.size)); clear BW hq; have BW := BW'; clear BW')
  | ((with_reducible refine gate_builtin (b := .append) (xs := #[.const (.slice none 0 0), .tmp 29]) rfl ?_); at_builtin; refine Kd.R_append_rows (Kd.int .i64) (w0 := w) w.heap.size rfl (.const (.slice none 0 0)) (.tmp 29) 24 3 (.int .i64 0) 8 rfl Try.underlying24 info3 rfl (by decide) (by omega) (.slice none 0 0) [] xs A xs.length c (fun _ => True) (fun _ => False) rfl rfl (Kd.R_nil _ _ _ _ _) (Kd.C_below HR.out BW.out) (fun _ _ h => h) (fun _ h => h.elim) (fun _ _ => trivial) BW.out (below_size BW.out) (by have := HLN.out; simp; omega) ?_; intro v0 w3 ho hb hg hat; rw [List.nil_append] at ho; obtain ⟨Al, cl, rfl⟩ := Kd.R_slice ho; have HL := Aside0.mk ho; have BW' := Aside0.mk hb; clear BW ho hb hg hat; have BW := BW'; clear BW')
  | ((with_reducible refine gate_dst (N := 9) rfl ?_); refine bT (N := 9) (#[.slice none 0 0, .int .i64 0]) 97 ?_; intro g9 hg W9 hbox hb; have K := Aside0.mk (bks_one hg hbox (BW.out.trans (hb.mono BW.out.size)) (by rw [hg]; exact below_size BW.out)); have HL' := Aside0.mk (Kd.R_below HL.out hb); clear HL hg hbox hb BW; have HL := HL'; clear HL')
  | ((with_reducible refine gate_store (t := 97) (p := 9) (v := .tmp 32) rfl ?_); refine store_ev rfl rfl 97 (.tmp 9) (.tmp 32) rfl rfl rfl (K.out.get 0 rfl) rfl rfl (by first | (kernel_rfl) | (simp [Value.oneCell'])) ?_; intro W9s hs; have HL' := Aside0.mk (row_stored HL.out (K.out.get 0 rfl) (by decide) hs); have K' := Aside0.mk (K.out.stored 0 rfl hs); clear HL K hs; have HL := HL'; have K := K'; clear HL' K'; have f0 : W9s.cell? ⟨g9, 0, none⟩ = some (.slice Al xs.length cl) := K.out.cell 0 rfl 0 rfl)
  | (go_at_call 80; (with_reducible refine (extend_Split.good k _ _ xs start lo hi _ (Kd.R_reads' HL.out).2.2 HST.out.1 HST.out.2 (by have := HLN.out; have := HLY.out; omega) H.out).mono ?_); rintro _ w8 ⟨v1, v2, rfl, r1, r2, b⟩; have R1 := Aside0.mk (Kd.R_lower r1 (below_size K.out.below)); have R2 := Aside0.mk (Kd.R_lower r2 (below_size K.out.below)); have BW := Aside0.mk (K.out.below.trans (b.mono (below_size K.out.below))); clear r1 r2 b))
  go_ret3
  exact ⟨_, _, rfl, R1.out, R2.out, BW.out⟩
 rw [if_pos hlen] at h
 have b4 : decide (1 < (xs.length : Int)) = true := decide_eq_true hlen
 have b5 : decide (1 < xs.length) = true := decide_eq_true (by omega)
 obtain ⟨y, hy, h⟩ := Option.bind_eq_some_iff.mp h
 obtain ⟨z, hz, h⟩ := Option.bind_eq_some_iff.mp h
 have HY := Aside0.mk hy
 have HZ := Aside0.mk hz
 have H := Aside0.mk h
 have HLY := Aside0.mk (show z.length ≤ xs.length by rw [stepF_length hz, stepF_length hy]; exact Nat.le_refl _)
 have HP := Aside0.mk (show 0 < xs.length by omega)
 clear h hy hz hlen
 go_upto_region 7 with (first
  | (go_at_call 75; (with_reducible refine (lift_known.calls _ true _ HKN.out).mono ?_); rintro _ w1 ⟨rfl, hq⟩; have BW' := Aside0.mk (BW.out.trans (hq.below.mono BW.out.size)); clear BW hq; have BW := BW'; clear BW')
  | (go_at_call 76; (with_reducible refine (lift_bounded.calls kb A c xs 281474976710656 true _ (Kd.C_below HR.out BW.out) HC.out HBD.out).mono ?_); rintro _ w2 ⟨rfl, hq⟩; have BW' := Aside0.mk (BW.out.trans (hq.below.mono BW.out.size)); clear BW hq; have BW := BW'; clear BW')
  | ((with_reducible refine gate_builtin (b := .append) (xs := #[.const (.slice none 0 0), .tmp 29]) rfl ?_); at_builtin; refine Kd.R_append_rows (Kd.int .i64) (w0 := w) w.heap.size rfl (.const (.slice none 0 0)) (.tmp 29) 24 3 (.int .i64 0) 8 rfl Try.underlying24 info3 rfl (by decide) (by omega) (.slice none 0 0) [] xs A xs.length c (fun _ => True) (fun _ => False) rfl rfl (Kd.R_nil _ _ _ _ _) (Kd.C_below HR.out BW.out) (fun _ _ h => h) (fun _ h => h.elim) (fun _ _ => trivial) BW.out (below_size BW.out) (by have := HLN.out; simp; omega) ?_; intro v0 w3 ho hb hg hat; rw [List.nil_append] at ho; obtain ⟨a, c2, rfl, -⟩ := Kd.R_form ho HP.out; have HL := Aside0.mk ho; have BW' := Aside0.mk hb; clear BW ho hb hg hat; have BW := BW'; clear BW')
  | ((with_reducible refine gate_dst (N := 9) rfl ?_); refine bT (N := 9) (#[.slice none 0 0, .int .i64 0]) 97 ?_; intro g9 hg W9 hbox hb; have K := Aside0.mk (bks_one hg hbox (BW.out.trans (hb.mono BW.out.size)) (by rw [hg]; exact below_size BW.out)); have HL' := Aside0.mk (Kd.R_below HL.out hb); clear HL hg hbox hb BW; have HL := HL'; clear HL')
  | ((with_reducible refine gate_store (t := 97) (p := 9) (v := .tmp 32) rfl ?_); refine store_ev rfl rfl 97 (.tmp 9) (.tmp 32) rfl rfl rfl (K.out.get 0 rfl) rfl rfl (by first | (kernel_rfl) | (simp [Value.oneCell'])) ?_; intro W9s hs; have HL' := Aside0.mk (row_stored HL.out (K.out.get 0 rfl) (by decide) hs); have K' := Aside0.mk (K.out.stored 0 rfl hs); clear HL K hs; have HL := HL'; have K := K'; clear HL' K'))
 clear b0 b1 b2 b3 HBD HKN HC
 have K' := Aside0.mk K.out.drew
 have HL' := Aside0.mk (Kd.R_drew HL.out)
 clear HL K
 have HL := HL'
 have K := K'
 clear HL' K'
 refine start_ (n := 5) (S := fun w' => w'.heap[g9]? = some (.cells #[.slice (some ⟨a, 0, none⟩) xs.length c2, .int .i64 start] 97 (0, 0))) (ds := []) #[false, false, false, false, false] (by kernel_rfl) rfl rfl (K.out.get 0 rfl) (fun hHeld0 => ?_)
 generalize hwp : W9s.drew = wpa at *
 clear hwp
 have hHeld := Aside0.mk hHeld0
 clear hHeld0
 refine tL (i := 0) (N := some 36) (v := .agg #[.slice (some ⟨a, 0, none⟩) xs.length c2, .int .i64 start]) rfl (load_yields (by rfl) 97 (.tmp 9) rfl rfl (fun _ h => h) Try.underlying97 rfl) hHeld.out ?_
 refine tL (i := 1) (N := some 37) (v := .agg #[.slice (some ⟨a, 0, none⟩) xs.length c2, .int .i64 start]) rfl (load_yields (by rfl) 97 (.tmp 9) rfl rfl (fun _ h => h) Try.underlying97 rfl) hHeld.out ?_
 refine pT (i := 2) (N := some 38) ?_
 refine one_ (i := 3) (N := some 39) #[true, true, true, true, false] rfl rfl (by kernel_rfl) (by decide) (fun KC hK => ?_)
 refine goes_ Try.func78 (by kernel_rfl) rfl #[.agg #[.slice (some ⟨a, 0, none⟩) xs.length c2, .int .i64 start], .int .i64 kk] (by rfl) rfl rfl (by simp only [List.map_toArray, List.map_cons, List.map_nil]; rfl) ?_
 refine (predict.calls kk (some ⟨a, 0, none⟩) xs.length c2 start _).mono ?_
 rintro _ wpb ⟨g, rfl, hgb, hge, b⟩
 refine ⟨_, rfl, ?_⟩
 have HGB := Aside0.mk hgb
 have HL' := Aside0.mk (Kd.R_below HL.out b)
 have K' := Aside0.mk (K.out.call (below_size K.out.below) b)
 clear HL K b hgb hge
 have HL := HL'
 have K := K'
 clear HL' K'
 refine hK.out _ _ (K.out.get 0 rfl) (fun hHeld => ?_)
 clear hK KC
 refine nT ?_
 refine one_ (i := 4) (N := some 40) #[true, true, true, true, true] rfl rfl (by kernel_rfl) (by decide) (fun KC hK => ?_)
 obtain ⟨fn, hf1, hf2, hf3⟩ := predN_func kk
 refine goes_ Try.func77 (by kernel_rfl) rfl #[.agg #[.slice (some ⟨a, 0, none⟩) xs.length c2, .int .i64 start], .int .i64 1, .int .i64 (-1), .func (.func (predN kk)) #[] #[.pointer (some ⟨g, 0, none⟩)]] (by rfl) rfl rfl (by simp only [List.map_toArray, List.map_cons, List.map_nil]; rfl) ?_
 refine (line_step.calls (predN kk) fn hf1 hf2 hf3 (prF kk k) (pr_fn kk k) k g a c2 xs.length xs y start 1 (-1) w w.heap.size (fun _ => True) _ HL.out HGB.out K.out.below HY.out).mono ?_
 rintro _ wpc ⟨rfl, hR, hk, hB⟩
 refine ⟨_, rfl, ?_⟩
 have hne : g9 ≠ a := fun e => Kd.R_ne HL.out (K.out.get 0 rfl) (by decide) (by rw [e]; rfl)
 have K' := Aside0.mk (K.out.kept1 hk hne hB)
 have HL' := Aside0.mk hR
 clear HL K hk hne hB hR HGB hf1 hf2 hf3
 have HL := HL'
 have K := K'
 clear HL' K'
 refine hK.out _ _ (K.out.get 0 rfl) (fun hHeld => ?_)
 clear hK KC
 refine nT ?_
 refine done_ (by kernel_rfl) ?_
 clear hHeld
 go_wp2
 have K' := Aside0.mk K.out.drew
 have HL' := Aside0.mk (Kd.R_drew HL.out)
 clear HL K
 have HL := HL'
 have K := K'
 clear HL' K'
 refine start_ (n := 5) (S := fun w' => w'.heap[g9]? = some (.cells #[.slice (some ⟨a, 0, none⟩) xs.length c2, .int .i64 start] 97 (0, 0))) (ds := []) #[false, false, false, false, false] (by kernel_rfl) rfl rfl (K.out.get 0 rfl) (fun hHeld0 => ?_)
 generalize hwq : wpc.drew = wqa at *
 clear hwq
 have hHeld := Aside0.mk hHeld0
 clear hHeld0
 refine tL (i := 0) (N := some 41) (v := .agg #[.slice (some ⟨a, 0, none⟩) xs.length c2, .int .i64 start]) rfl (load_yields (by rfl) 97 (.tmp 9) rfl rfl (fun _ h => h) Try.underlying97 rfl) hHeld.out ?_
 refine tL (i := 1) (N := some 42) (v := .agg #[.slice (some ⟨a, 0, none⟩) xs.length c2, .int .i64 start]) rfl (load_yields (by rfl) 97 (.tmp 9) rfl rfl (fun _ h => h) Try.underlying97 rfl) hHeld.out ?_
 refine pT (i := 2) (N := some 43) ?_
 refine one_ (i := 3) (N := some 44) #[true, true, true, true, false] rfl rfl (by kernel_rfl) (by decide) (fun KC hK => ?_)
 refine goes_ Try.func79 (by kernel_rfl) rfl #[.agg #[.slice (some ⟨a, 0, none⟩) xs.length c2, .int .i64 start], .int .i64 kk] (by rfl) rfl rfl (by simp only [List.map_toArray, List.map_cons, List.map_nil]; rfl) ?_
 refine (update.calls kk (some ⟨a, 0, none⟩) xs.length c2 start _).mono ?_
 rintro _ wqb ⟨g, rfl, hgb, hge, b⟩
 refine ⟨_, rfl, ?_⟩
 have HGB := Aside0.mk hgb
 have HL' := Aside0.mk (Kd.R_below HL.out b)
 have K' := Aside0.mk (K.out.call (below_size K.out.below) b)
 clear HL K b hgb hge
 have HL := HL'
 have K := K'
 clear HL' K'
 refine hK.out _ _ (K.out.get 0 rfl) (fun hHeld => ?_)
 clear hK KC
 refine nT ?_
 refine one_ (i := 4) (N := some 45) #[true, true, true, true, true] rfl rfl (by kernel_rfl) (by decide) (fun KC hK => ?_)
 obtain ⟨fn, hf1, hf2, hf3⟩ := updN_func kk
 refine goes_ Try.func77 (by kernel_rfl) rfl #[.agg #[.slice (some ⟨a, 0, none⟩) xs.length c2, .int .i64 start], .int .i64 0, .int .i64 (1), .func (.func (updN kk)) #[] #[.pointer (some ⟨g, 0, none⟩)]] (by rfl) rfl rfl (by simp only [List.map_toArray, List.map_cons, List.map_nil]; rfl) ?_
 refine (line_step.calls (updN kk) fn hf1 hf2 hf3 (upF kk k) (up_fn kk k) k g a c2 xs.length y z start 0 (1) w w.heap.size (fun _ => True) _ HL.out HGB.out K.out.below HZ.out).mono ?_
 rintro _ wqc ⟨rfl, hR, hk, hB⟩
 refine ⟨_, rfl, ?_⟩
 have hne : g9 ≠ a := fun e => Kd.R_ne HL.out (K.out.get 0 rfl) (by decide) (by rw [e]; rfl)
 have K' := Aside0.mk (K.out.kept1 hk hne hB)
 have HL' := Aside0.mk hR
 clear HL K hk hne hB hR HGB hf1 hf2 hf3
 have HL := HL'
 have K := K'
 clear HL' K'
 refine hK.out _ _ (K.out.get 0 rfl) (fun hHeld => ?_)
 clear hK KC
 refine nT ?_
 refine done_ (by kernel_rfl) ?_
 clear hHeld
 have f0 : wqc.cell? ⟨g9, 0, none⟩ = some (.slice (some ⟨a, 0, none⟩) z.length c2) := by
  rw [← (Kd.R_reads' HL.out).1]
  exact K.out.cell 0 rfl 0 rfl
 go_wp2_with (go_at_call 80; (with_reducible refine (extend_Split.good k _ _ z start lo hi _ (Kd.R_reads' HL.out).2.2 HST.out.1 HST.out.2 (by have := HLN.out; have := HLY.out; omega) H.out).mono ?_); rintro _ w8 ⟨v1, v2, rfl, r1, r2, b⟩; have R1 := Aside0.mk (Kd.R_lower r1 (below_size K.out.below)); have R2 := Aside0.mk (Kd.R_lower r2 (below_size K.out.below)); have BW := Aside0.mk (K.out.below.trans (b.mono (below_size K.out.below))); clear r1 r2 b)
 go_ret3
 exact ⟨_, _, rfl, R1.out, R2.out, BW.out⟩
/-- The numbers at even places from lo, at odd places from hi. -/
def joinF (start : Int) (lo hi : List Int) (n : Int) : Nat → Int → Int → Int → List Int → Option (List Int)
 | 0, _, _, _, _ => none
 | k + 1, i, a, b, x => if i < n then (if 0 ≤ i then (if Int.tmod (wrap64 (start + i)) 2 = 0 then (if 0 ≤ a ∧ a < (lo.length : Int) then joinF start lo hi n k (wrap64 (i + 1)) (wrap64 (a + 1)) b (x.set i.toNat (rd lo a)) else none) else (if 0 ≤ b ∧ b < (hi.length : Int) then joinF start lo hi n k (wrap64 (i + 1)) a (wrap64 (b + 1)) (x.set i.toNat (rd hi b)) else none)) else none) else some x
theorem joinF_length {start : Int} {lo hi : List Int} {n : Int} : ∀ {k : Nat} {i a b : Int} {x y : List Int}, joinF start lo hi n k i a b x = some y → y.length = x.length
 | 0, _, _, _, _, _, h => by simp [joinF] at h
 | k + 1, i, a, b, x, y, h => by
  rw [joinF.eq_2] at h
  split at h
  ·split at h
   ·split at h
    ·split at h
     ·have := joinF_length h
      rwa [List.length_set] at this
     ·cases h
    ·split at h
     ·have := joinF_length h
      rwa [List.length_set] at this
     ·cases h
   ·cases h
  ·rw [Option.some.inj h]
set_option maxHeartbeats 8000000 in
set_option maxRecDepth 100000 in
theorem extend_Join.good (k : Nat) (A : Option Addr) (c : Nat) (lo : List Int) (B : Option Addr) (d : Nat) (hi : List Int) (start : Int) (x : List Int) (w : World) (hr1 : Kd.C (Kd.int .i64) w A lo.length lo) (hr2 : Kd.C (Kd.int .i64) w B hi.length hi) (h0 : 0 ≤ start) (h1 : start ≤ 4096) (hl : lo.length + hi.length ≤ 4096) (hn : cntE start ((lo.length + hi.length : Nat) : Int) = (lo.length : Int)) (h : joinF start lo hi ((lo.length + hi.length : Nat) : Int) k 0 0 0 (List.replicate (lo.length + hi.length) 0) = some x) :
  Calls Try.prog 82 #[.slice A lo.length c, .slice B hi.length d, .int .i64 start] w fun e w' => ∃ v, e = .returned (.tuple #[v, .int .i64 0]) ∧ Kd.R (Kd.int .i64) 3 w' w.heap.size (fun _ => True) v x ∧ Below w.heap.size w w' := by
 have H := Aside0.mk h
 have HR1 := Aside0.mk hr1
 have HR2 := Aside0.mk hr2
 have b0 : decide (start < 0) = false := decide_eq_false (by omega)
 have b1 : decide (4096 < start) = false := decide_eq_false (by omega)
 have b2 : decide (4096 < (lo.length : Int)) = false := decide_eq_false (by omega)
 have b3 : decide (4096 < lo.length) = false := decide_eq_false (by omega)
 have e0 : wrap64 (4096 - (lo.length : Int)) = 4096 - (lo.length : Int) := by unfold wrap64; omega
 have b4 : decide (4096 - (lo.length : Int) < (hi.length : Int)) = false := decide_eq_false (by omega)
 have e1 : wrap64 ((lo.length : Int) + (hi.length : Int)) = ((lo.length + hi.length : Nat) : Int) := by unfold wrap64; omega
 have e2 : wrap64 (((lo.length + hi.length : Nat) : Int) - (lo.length : Int)) = (hi.length : Int) := by unfold wrap64; omega
 obtain ⟨n, hnn⟩ : ∃ n : Nat, n = lo.length + hi.length := ⟨_, rfl⟩
 rw [← hnn] at hn e1 e2 h
 have HQ := Aside0.mk (fun W : World => extend_Counts.good start (n : Int) h0 h1 (by omega) (by omega) W)
 have HN := Aside0.mk hnn
 have HC := Aside0.mk hn
 have HX := Aside0.mk h
 have HNL := Aside0.mk (show n ≤ 4096 by omega)
 have b5 : ((lo.length : Int) != (lo.length : Int)) = false := by simp
 have b6 : ((hi.length : Int) != (hi.length : Int)) = false := by simp
 clear h hr1 hr2 h0 h1 hl hnn hn H
 have BW := Aside0.mk (Below.refl w.heap.size w)
 go_enter Try.func82, Try.ntmps82
 go_wp2_with (first
  | (go_at_call 90; (with_reducible refine (HQ.out _).mono ?_); rintro _ w1 ⟨rfl, hq⟩; have hq' := hq.symm; clear hq; subst hq'; have hcn := HC.out; rw [hcn, e2]; clear hcn)
  | ((with_reducible refine gate_dst (N := 56) rfl ?_); refine Kd.R_make (Kd.int .i64) (w0 := w) w.heap.size 3 rfl (N := 56) rfl 24 (.tmp 55) (.tmp 55) rfl (n : Int) rfl rfl Try.underlying24 (.int .i64 0) 8 info3 rfl (by decide) (by omega) (0 : Int) (okp := fun _ => False) (ok := fun _ => True) rfl (fun _ h => h.elim) trivial (by omega) (by have := HNL.out; omega) BW.out (below_size BW.out) ?_; intro v w2 ho hb hg hat; rw [Int.toNat_natCast] at ho; have HL := Aside0.mk ho; have BW' := Aside0.mk hb; clear BW ho hb hg hat; have BW := BW'; clear BW'))
 clear b0 b1 b2 b3 b4 b5 b6 e0 e1 e2 HQ HC
 go_loopg [12, 13, 58] k (fun kq v12 v13 v58 w' => ∃ (i a b : Int) (y : List Int), v12 = .int .i64 a ∧ v13 = .int .i64 b ∧ v58 = .int .i64 i ∧ Aside0 (y.length = n) ∧ Aside0 (joinF start lo hi (n : Int) kq i a b y = some x) ∧ Aside0 (Kd.R (Kd.int .i64) 3 w' w.heap.size (fun _ => True) v y) ∧ Aside0 (Below w.heap.size w w'))
 case atStart => exact ⟨0, 0, 0, _, rfl, rfl, rfl, ⟨by simp⟩, HX, HL, BW⟩
 case round =>
 clear HX HL BW
 obtain ⟨i, a, b, y, rfl, rfl, rfl, HY, HX, HL, BW⟩ := hrel
 cases gk with
 | zero => exact absurd HX.out (by simp [joinF])
 | succ kk =>
 have hs := HX.out
 clear HX
 rw [joinF.eq_2] at hs
 by_cases hi1 : i < (n : Int)
 rotate_left
 ·rw [if_neg hi1] at hs
  have hb0 : decide (i < (n : Int)) = false := decide_eq_false hi1
  obtain rfl := Option.some.inj hs
  clear hs hi1
  go_wp2
  go_ret2
  exact ⟨_, rfl, HL.out, BW.out⟩
 rw [if_pos hi1] at hs
 by_cases hi0 : 0 ≤ i
 rotate_left
 ·rw [if_neg hi0] at hs
  cases hs
 rw [if_pos hi0] at hs
 have hb0 : decide (i < (n : Int)) = true := decide_eq_true hi1
 obtain ⟨g, cg, ev, -⟩ := Kd.R_form HL.out (by rw [HY.out]; omega)
 rw [HY.out] at ev
 subst ev
 have hin : i < (n : Int) := hi1
 have p0 : (0 ≤ i) = True := eq_true hi0
 have p1 : (i < (n : Int)) = True := eq_true hi1
 obtain ⟨hc9, hz⟩ := Kd.R_celln (0 : Int) HL.out i hi0 hin
 replace hc9 : wr.cell? ⟨g, i.toNat, none⟩ = some (.int .i64 (rd y i)) := hc9
 replace hz : wr.frozen? ⟨g, i.toNat, none⟩ = false := hz
 have hgw : w.heap.size ≤ g := Kd.R_base HL.out g rfl
 by_cases hp : Int.tmod (wrap64 (start + i)) 2 = 0
 ·rw [if_pos hp] at hs
  by_cases ha : 0 ≤ a ∧ a < (lo.length : Int)
  rotate_left
  ·rw [if_neg ha] at hs
   cases hs
  rw [if_pos ha] at hs
  have HX := Aside0.mk hs
  have hb1 : (Int.tmod (wrap64 (start + i)) 2 == 0) = true := beq_iff_eq.mpr hp
  obtain ⟨ad, e9, hx⟩ := Kd.at_int (Kd.C_below HR1.out BW.out) a ha.1 ha.2
  subst e9
  have q0 : (0 ≤ a) = True := eq_true ha.1
  have q1 : (a < (lo.length : Int)) = True := eq_true ha.2
  clear hs hp hi1 hi0 ha
  go_wp2
  go_roundg kk
  case measure => omega
  case rel => exact ⟨_, _, _, _, rfl, rfl, rfl, ⟨by rw [List.length_set]; exact HY.out⟩, HX, ⟨Kd.R_putn HL.out i _⟩, ⟨BW.out.setCell (p := ⟨g, i.toNat, none⟩) hgw _⟩⟩
 ·rw [if_neg hp] at hs
  by_cases ha : 0 ≤ b ∧ b < (hi.length : Int)
  rotate_left
  ·rw [if_neg ha] at hs
   cases hs
  rw [if_pos ha] at hs
  have HX := Aside0.mk hs
  have hb1 : (Int.tmod (wrap64 (start + i)) 2 == 0) = false := beq_eq_false_iff_ne.mpr hp
  obtain ⟨ad, e9, hx⟩ := Kd.at_int (Kd.C_below HR2.out BW.out) b ha.1 ha.2
  subst e9
  have q0 : (0 ≤ b) = True := eq_true ha.1
  have q1 : (b < (hi.length : Int)) = True := eq_true ha.2
  clear hs hp hi1 hi0 ha
  go_wp2
  go_roundg kk
  case measure => omega
  case rel => exact ⟨_, _, _, _, rfl, rfl, rfl, ⟨by rw [List.length_set]; exact HY.out⟩, HX, ⟨Kd.R_putn HL.out i _⟩, ⟨BW.out.setCell (p := ⟨g, i.toNat, none⟩) hgw _⟩⟩
/-- A line from its halves. -/
def invF (kk : Int) (k : Nat) (start : Int) (lo hi : List Int) : Option (List Int) :=
 (joinF start lo hi ((lo.length + hi.length : Nat) : Int) k 0 0 0 (List.replicate (lo.length + hi.length) 0)).bind fun x => if 1 < (x.length : Int) then (stepF (upF kk k) start 0 (-1) k 0 x).bind fun y => stepF (prF kk k) start 1 1 k 0 y else some x
set_option maxHeartbeats 8000000 in
set_option maxRecDepth 100000 in
theorem lift_Inverse.good (k kb : Nat) (kk : Int) (A : Option Addr) (c : Nat) (lo : List Int) (B : Option Addr) (d : Nat) (hi : List Int) (start : Int) (z : List Int) (w : World) (hr1 : Kd.C (Kd.int .i64) w A lo.length lo) (hc1 : lo.length ≤ c) (hr2 : Kd.C (Kd.int .i64) w B hi.length hi) (hc2 : hi.length ≤ d) (hk1 : 1 ≤ kk) (hk3 : kk ≤ 3) (h0 : 0 ≤ start) (h1 : start ≤ 4096) (hl : lo.length + hi.length ≤ 4096) (hn : cntE start ((lo.length + hi.length : Nat) : Int) = (lo.length : Int))
  (hb1 : lift_bounded.f kb lo 1125899906842624 = some true) (hb2 : lift_bounded.f kb hi 1125899906842624 = some true) (h : invF kk k start lo hi = some z) :
  Calls Try.prog 67 #[.slice A lo.length c, .slice B hi.length d, .int .i64 start, .int .i64 kk] w fun e w' => ∃ v, e = .returned (.tuple #[v, .int .i64 0]) ∧ Kd.R (Kd.int .i64) 3 w' w.heap.size (fun _ => True) v z ∧ Below w.heap.size w w' := by
 have HR1 := Aside0.mk hr1
 have HC1 := Aside0.mk hc1
 have HR2 := Aside0.mk hr2
 have HC2 := Aside0.mk hc2
 have HLN := Aside0.mk hl
 have HST := Aside0.mk (And.intro h0 h1)
 have HB1 := Aside0.mk hb1
 have HB2 := Aside0.mk hb2
 have HCN := Aside0.mk hn
 have HKN := Aside0.mk (show lift_known.f kk = some true by unfold lift_known.f; rw [if_pos (by omega), decide_eq_true hk3])
 have b0 : decide (start < 0) = false := decide_eq_false (by omega)
 have b1 : decide (4096 < start) = false := decide_eq_false (by omega)
 have b2 : decide (4096 < (lo.length : Int)) = false := decide_eq_false (by omega)
 have b3 : decide (4096 < lo.length) = false := decide_eq_false (by omega)
 have e0 : wrap64 (4096 - (lo.length : Int)) = 4096 - (lo.length : Int) := by unfold wrap64; omega
 have b4 : decide (4096 - (lo.length : Int) < (hi.length : Int)) = false := decide_eq_false (by omega)
 have BW := Aside0.mk (Below.refl w.heap.size w)
 unfold invF at h
 obtain ⟨x, hx, h⟩ := Option.bind_eq_some_iff.mp h
 have HX := Aside0.mk hx
 have hxl := joinF_length hx
 rw [List.length_replicate] at hxl
 clear hr1 hc1 hr2 hc2 hl h0 h1 hb1 hb2 hn hk1 hk3 hx
 go_enter Try.func67, Try.ntmps67
 by_cases hlen : 1 < (x.length : Int)
 rotate_left
 ·rw [if_neg hlen] at h
  obtain rfl := Option.some.inj h
  have c4 : decide (1 < (x.length : Int)) = false := decide_eq_false hlen
  have c5 : decide (1 < x.length) = false := decide_eq_false (by omega)
  clear h hlen hxl
  go_wp2_with (first
  | (go_at_call 75; (with_reducible refine (lift_known.calls _ true _ HKN.out).mono ?_); rintro _ w1 ⟨rfl, hq⟩; have BW' := Aside0.mk (BW.out.trans (hq.below.mono BW.out.size)); clear BW hq; have BW := BW'; clear BW')
  | (go_at_call 76; (with_reducible refine (lift_bounded.calls kb A c lo 1125899906842624 true _ (Kd.C_below HR1.out BW.out) HC1.out HB1.out).mono ?_); rintro _ w2 ⟨rfl, hq⟩; have BW' := Aside0.mk (BW.out.trans (hq.below.mono BW.out.size)); clear BW hq; have BW := BW'; clear BW')
  | (go_at_call 76; (with_reducible refine (lift_bounded.calls kb B d hi 1125899906842624 true _ (Kd.C_below HR2.out BW.out) HC2.out HB2.out).mono ?_); rintro _ w2 ⟨rfl, hq⟩; have BW' := Aside0.mk (BW.out.trans (hq.below.mono BW.out.size)); clear BW hq; have BW := BW'; clear BW')
  | (go_at_call 82; (with_reducible refine (extend_Join.good k A c lo B d hi start x _ (Kd.C_below HR1.out BW.out) (Kd.C_below HR2.out BW.out) HST.out.1 HST.out.2 HLN.out HCN.out HX.out).mono ?_); rintro _ w4 ⟨v0, rfl, ho, b⟩; obtain ⟨Al, cl, rfl⟩ := Kd.R_slice ho; have HL := Aside0.mk (Kd.R_lower ho (below_size BW.out)); have BW' := Aside0.mk (BW.out.trans (b.mono BW.out.size)); clear BW ho b; have BW := BW'; clear BW'))
  go_ret2
  exact ⟨_, rfl, HL.out, BW.out⟩
 rw [if_pos hlen] at h
 have c4 : decide (1 < (x.length : Int)) = true := decide_eq_true hlen
 have c5 : decide (1 < x.length) = true := decide_eq_true (by omega)
 obtain ⟨y, hy, h⟩ := Option.bind_eq_some_iff.mp h
 have HY := Aside0.mk hy
 have HZ := Aside0.mk h
 have HP := Aside0.mk (show 0 < x.length by omega)
 clear h hy hlen hxl
 go_upto_region 12 with (first
  | (go_at_call 75; (with_reducible refine (lift_known.calls _ true _ HKN.out).mono ?_); rintro _ w1 ⟨rfl, hq⟩; have BW' := Aside0.mk (BW.out.trans (hq.below.mono BW.out.size)); clear BW hq; have BW := BW'; clear BW')
  | (go_at_call 76; (with_reducible refine (lift_bounded.calls kb A c lo 1125899906842624 true _ (Kd.C_below HR1.out BW.out) HC1.out HB1.out).mono ?_); rintro _ w2 ⟨rfl, hq⟩; have BW' := Aside0.mk (BW.out.trans (hq.below.mono BW.out.size)); clear BW hq; have BW := BW'; clear BW')
  | (go_at_call 76; (with_reducible refine (lift_bounded.calls kb B d hi 1125899906842624 true _ (Kd.C_below HR2.out BW.out) HC2.out HB2.out).mono ?_); rintro _ w2 ⟨rfl, hq⟩; have BW' := Aside0.mk (BW.out.trans (hq.below.mono BW.out.size)); clear BW hq; have BW := BW'; clear BW')
  | (go_at_call 82; (with_reducible refine (extend_Join.good k A c lo B d hi start x _ (Kd.C_below HR1.out BW.out) (Kd.C_below HR2.out BW.out) HST.out.1 HST.out.2 HLN.out HCN.out HX.out).mono ?_); rintro _ w4 ⟨v0, rfl, ho, b⟩; obtain ⟨a, c2, rfl, -⟩ := Kd.R_form ho HP.out; have HL := Aside0.mk (Kd.R_lower ho (below_size BW.out)); have BW' := Aside0.mk (BW.out.trans (b.mono BW.out.size)); clear BW ho b; have BW := BW'; clear BW')
  | ((with_reducible refine gate_dst (N := 12) rfl ?_); refine bT (N := 12) (#[.slice none 0 0, .int .i64 0]) 97 ?_; intro g12 hg W12 hbox hb; have K := Aside0.mk (bks_one hg hbox (BW.out.trans (hb.mono BW.out.size)) (by rw [hg]; exact below_size BW.out)); have HL' := Aside0.mk (Kd.R_below HL.out hb); clear HL hg hbox hb BW; have HL := HL'; clear HL')
  | ((with_reducible refine gate_store (t := 97) (p := 12) (v := .tmp 58) rfl ?_); refine store_ev rfl rfl 97 (.tmp 12) (.tmp 58) rfl rfl rfl (K.out.get 0 rfl) rfl rfl (by first | (kernel_rfl) | (simp [Value.oneCell'])) ?_; intro W9s hs; have HL' := Aside0.mk (row_stored HL.out (K.out.get 0 rfl) (by decide) hs); have K' := Aside0.mk (K.out.stored 0 rfl hs); clear HL K hs; have HL := HL'; have K := K'; clear HL' K'))
 clear b0 b1 b2 b3 b4 e0 HB1 HB2 HKN HC1 HC2
 have K' := Aside0.mk K.out.drew
 have HL' := Aside0.mk (Kd.R_drew HL.out)
 clear HL K
 have HL := HL'
 have K := K'
 clear HL' K'
 refine start_ (n := 5) (S := fun w' => w'.heap[g12]? = some (.cells #[.slice (some ⟨a, 0, none⟩) x.length c2, .int .i64 start] 97 (0, 0))) (ds := []) #[false, false, false, false, false] (by kernel_rfl) rfl rfl (K.out.get 0 rfl) (fun hHeld0 => ?_)
 generalize hwp : W9s.drew = wpa at *
 clear hwp
 have hHeld := Aside0.mk hHeld0
 clear hHeld0
 refine tL (i := 0) (N := some 59) (v := .agg #[.slice (some ⟨a, 0, none⟩) x.length c2, .int .i64 start]) rfl (load_yields (by rfl) 97 (.tmp 12) rfl rfl (fun _ h => h) Try.underlying97 rfl) hHeld.out ?_
 refine tL (i := 1) (N := some 60) (v := .agg #[.slice (some ⟨a, 0, none⟩) x.length c2, .int .i64 start]) rfl (load_yields (by rfl) 97 (.tmp 12) rfl rfl (fun _ h => h) Try.underlying97 rfl) hHeld.out ?_
 refine pT (i := 2) (N := some 61) ?_
 refine one_ (i := 3) (N := some 62) #[true, true, true, true, false] rfl rfl (by kernel_rfl) (by decide) (fun KC hK => ?_)
 refine goes_ Try.func79 (by kernel_rfl) rfl #[.agg #[.slice (some ⟨a, 0, none⟩) x.length c2, .int .i64 start], .int .i64 kk] (by rfl) rfl rfl (by simp only [List.map_toArray, List.map_cons, List.map_nil]; rfl) ?_
 refine (update.calls kk (some ⟨a, 0, none⟩) x.length c2 start _).mono ?_
 rintro _ wpb ⟨g, rfl, hgb, hge, b⟩
 refine ⟨_, rfl, ?_⟩
 have HGB := Aside0.mk hgb
 have HL' := Aside0.mk (Kd.R_below HL.out b)
 have K' := Aside0.mk (K.out.call (below_size K.out.below) b)
 clear HL K b hgb hge
 have HL := HL'
 have K := K'
 clear HL' K'
 refine hK.out _ _ (K.out.get 0 rfl) (fun hHeld => ?_)
 clear hK KC
 refine nT ?_
 refine one_ (i := 4) (N := some 63) #[true, true, true, true, true] rfl rfl (by kernel_rfl) (by decide) (fun KC hK => ?_)
 obtain ⟨fn, hf1, hf2, hf3⟩ := updN_func kk
 refine goes_ Try.func77 (by kernel_rfl) rfl #[.agg #[.slice (some ⟨a, 0, none⟩) x.length c2, .int .i64 start], .int .i64 0, .int .i64 (-1), .func (.func (updN kk)) #[] #[.pointer (some ⟨g, 0, none⟩)]] (by rfl) rfl rfl (by simp only [List.map_toArray, List.map_cons, List.map_nil]; rfl) ?_
 refine (line_step.calls (updN kk) fn hf1 hf2 hf3 (upF kk k) (up_fn kk k) k g a c2 x.length x y start 0 (-1) w w.heap.size (fun _ => True) _ HL.out HGB.out K.out.below HY.out).mono ?_
 rintro _ wpc ⟨rfl, hR, hk, hB⟩
 refine ⟨_, rfl, ?_⟩
 have hne : g12 ≠ a := fun e => Kd.R_ne HL.out (K.out.get 0 rfl) (by decide) (by rw [e]; rfl)
 have K' := Aside0.mk (K.out.kept1 hk hne hB)
 have HL' := Aside0.mk hR
 clear HL K hk hne hB hR HGB hf1 hf2 hf3
 have HL := HL'
 have K := K'
 clear HL' K'
 refine hK.out _ _ (K.out.get 0 rfl) (fun hHeld => ?_)
 clear hK KC
 refine nT ?_
 refine done_ (by kernel_rfl) ?_
 clear hHeld
 go_wp2
 have K' := Aside0.mk K.out.drew
 have HL' := Aside0.mk (Kd.R_drew HL.out)
 clear HL K
 have HL := HL'
 have K := K'
 clear HL' K'
 refine start_ (n := 5) (S := fun w' => w'.heap[g12]? = some (.cells #[.slice (some ⟨a, 0, none⟩) x.length c2, .int .i64 start] 97 (0, 0))) (ds := []) #[false, false, false, false, false] (by kernel_rfl) rfl rfl (K.out.get 0 rfl) (fun hHeld0 => ?_)
 generalize hwq : wpc.drew = wqa at *
 clear hwq
 have hHeld := Aside0.mk hHeld0
 clear hHeld0
 refine tL (i := 0) (N := some 64) (v := .agg #[.slice (some ⟨a, 0, none⟩) x.length c2, .int .i64 start]) rfl (load_yields (by rfl) 97 (.tmp 12) rfl rfl (fun _ h => h) Try.underlying97 rfl) hHeld.out ?_
 refine tL (i := 1) (N := some 65) (v := .agg #[.slice (some ⟨a, 0, none⟩) x.length c2, .int .i64 start]) rfl (load_yields (by rfl) 97 (.tmp 12) rfl rfl (fun _ h => h) Try.underlying97 rfl) hHeld.out ?_
 refine pT (i := 2) (N := some 66) ?_
 refine one_ (i := 3) (N := some 67) #[true, true, true, true, false] rfl rfl (by kernel_rfl) (by decide) (fun KC hK => ?_)
 refine goes_ Try.func78 (by kernel_rfl) rfl #[.agg #[.slice (some ⟨a, 0, none⟩) x.length c2, .int .i64 start], .int .i64 kk] (by rfl) rfl rfl (by simp only [List.map_toArray, List.map_cons, List.map_nil]; rfl) ?_
 refine (predict.calls kk (some ⟨a, 0, none⟩) x.length c2 start _).mono ?_
 rintro _ wqb ⟨g, rfl, hgb, hge, b⟩
 refine ⟨_, rfl, ?_⟩
 have HGB := Aside0.mk hgb
 have HL' := Aside0.mk (Kd.R_below HL.out b)
 have K' := Aside0.mk (K.out.call (below_size K.out.below) b)
 clear HL K b hgb hge
 have HL := HL'
 have K := K'
 clear HL' K'
 refine hK.out _ _ (K.out.get 0 rfl) (fun hHeld => ?_)
 clear hK KC
 refine nT ?_
 refine one_ (i := 4) (N := some 68) #[true, true, true, true, true] rfl rfl (by kernel_rfl) (by decide) (fun KC hK => ?_)
 obtain ⟨fn, hf1, hf2, hf3⟩ := predN_func kk
 refine goes_ Try.func77 (by kernel_rfl) rfl #[.agg #[.slice (some ⟨a, 0, none⟩) x.length c2, .int .i64 start], .int .i64 1, .int .i64 (1), .func (.func (predN kk)) #[] #[.pointer (some ⟨g, 0, none⟩)]] (by rfl) rfl rfl (by simp only [List.map_toArray, List.map_cons, List.map_nil]; rfl) ?_
 refine (line_step.calls (predN kk) fn hf1 hf2 hf3 (prF kk k) (pr_fn kk k) k g a c2 x.length y z start 1 (1) w w.heap.size (fun _ => True) _ HL.out HGB.out K.out.below HZ.out).mono ?_
 rintro _ wqc ⟨rfl, hR, hk, hB⟩
 refine ⟨_, rfl, ?_⟩
 have hne : g12 ≠ a := fun e => Kd.R_ne HL.out (K.out.get 0 rfl) (by decide) (by rw [e]; rfl)
 have K' := Aside0.mk (K.out.kept1 hk hne hB)
 have HL' := Aside0.mk hR
 clear HL K hk hne hB hR HGB hf1 hf2 hf3
 have HL := HL'
 have K := K'
 clear HL' K'
 refine hK.out _ _ (K.out.get 0 rfl) (fun hHeld => ?_)
 clear hK KC
 refine nT ?_
 refine done_ (by kernel_rfl) ?_
 clear hHeld
 go_wp2
 go_ret2
 exact ⟨_, rfl, HL.out, K.out.below⟩
end Go.Proofs.Ytcnpekpgghppnaa.Q
