/- Texts of this session (words and printed walks, merged by wip/tools/merge.py) for the statement of the claim. -/
import Derived.Test.YtcnpekpgghppnaaMTr0
import Derived.Test.YtcnpekpgghppnaaProg
import Derived.Below
import Derived.Deep.Draws
import Derived.Deep.AppendLies
import Derived.Maps.AppendAt
import Derived.OwnWalk
import Derived.Laws.BytesArg
import Derived.Laws.MakeOwn
import Derived.Laws.OwnMore
import Derived.Deep.OwnRows
import Derived.Tactics
import Derived.Lib.ConvBytes
import Derived.Laws.Slices
import Derived.WalkKit
import Derived.KernelRfl
import Derived.RowKit3
import Derived.Deep.LoopGhost
import Derived.Deep.QuietTactic
import Derived.BigQuiet
import Derived.WideLaws
import Derived.Deep.DeepCutAuto
import Derived.Deep.CutBlock
import Derived.Deep.RegionHeld3
import Derived.Laws.Rows
import Derived.Lib.AppendStr
import Derived.ArgAppend
import Derived.Laws.IdiomCopy
import Derived.OrdersHeld
import Derived.Laws.BitsLemmas
import Derived.RowKit
import Derived.Defers
import Derived.Recover
import Derived.WalkSmall
import Derived.Laws.NewBlocks
import Derived.Deep.MidRow
/- Laws beside the print's words: make with a capacity of its own, make with a size of another kind, a cut with a capacity. -/
namespace Go.Proofs.YtcnpekpgghppnaaW.PrintWords
open Go.RowKit
set_option linter.unusedVariables false
namespace Kd
section
variable {P : Program} {ops : Array Oper} {rest : List Oper} {o : Oper} {a : Act} {Q : Exit → Act → World → Prop} {α : Type}
theorem R_made (d : Kd α) {W : World} (base e : Nat) (bytes : Nat) (z : Value) (hz : z.cells.size = d.sz) (hs0 : 0 < d.sz) (hb0 : 0 < bytes) (z0 : α) {ok okp : Nat → Prop} (hzero : d.M W base okp z0 z.cells.toList) (hok : ∀ k, okp k → ok k) (hfresh : ok W.heap.size)
    (hbase : base ≤ W.heap.size) (n c : Nat) (hnc : n ≤ c) (hl : c * bytes ≤ 281474976710656) :
    d.R e (W.alloc (.cells (madeCells z.cells (c * d.sz)) e)) base ok (.slice (some ⟨W.heap.size, 0, none⟩) n c) (List.replicate n z0) := by
  have hc : c ≤ 281474976710656 := Nat.le_trans (Nat.le_mul_of_pos_right _ hb0) hl
  have hrep := reps_made (R := d.M W base okp) hz hs0 hzero c
  have hall : d.R e (W.alloc (.cells (madeCells z.cells (c * d.sz)) e)) base ok (.slice (some ⟨W.heap.size, 0, none⟩) c c) (List.replicate c z0) := by
    refine ⟨fun k hk => ?_, (madeCells z.cells (c * d.sz)).toList, ?_, ?_⟩
    · have : W.heap.size = k := by simpa [Value.ownBlock] using hk
      subst this
      exact hfresh
    · have h2 := World.ownsRow_lit (base := base) (e := e) (size := d.sz) W (madeCells z.cells (c * d.sz)) (List.replicate c z0).length hbase (by simp [maxLen]; omega) (by simpa using hrep.1)
      simpa using h2
    · refine hrep.imp_ (fun p c' hp => d.M_mono (fun k hk => ⟨hok k hk.1, fun he => ?_⟩) (M_below (d.M_bound hp) (below_alloc (Below.refl _ _) _)))
      have h3 : k = W.heap.size := by simpa [Value.ownBlock] using he
      have := hk.2.2.1
      omega
  have := R_take hall (m := n) (by simp; omega)
  rwa [List.take_replicate, Nat.min_eq_left hnc] at this
theorem R_make_cap (d : Kd α) {w0 W : World} (base e : Nat) (hgd : o.guard = none) {N : Tmp} (hd : o.dst = some N) (t : TypeId) (x y : Operand) (ho : o.op = .makeSlice t x y) (kx ky : IntKind) (n c : Int) (hx : a.eval x = .int kx n) (hy : a.eval y = .int ky c)
    (ht : P.underlying t = some (.slice e)) (z : Value) (bytes : Nat) (hinfo : (P.info? e).map (fun i => (i.zero, i.size, i.bytes)) = some (some z, d.sz, bytes)) (hz : z.cells.size = d.sz) (hs0 : 0 < d.sz) (hb0 : 0 < bytes)
    (z0 : α) {ok okp : Nat → Prop} (hzero : d.M W base okp z0 z.cells.toList) (hok : ∀ k, okp k → ok k) (hfresh : ok W.heap.size) (h0 : 0 ≤ n) (hnc : n ≤ c) (hl : c.toNat * bytes ≤ 281474976710656) (HB : Below base w0 W) (hbase : base ≤ W.heap.size)
    (h : ∀ v1 w1, d.R e w1 base ok v1 (List.replicate n.toNat z0) → Below base w0 w1 → W.grownBy w1 none → (∃ b, v1.ownBlock = some b ∧ W.heap.size ≤ b) → wpList P ops Q rest (a.put o.dst v1) w1) : wpList P ops Q (o :: rest) a W := by
  obtain ⟨m, rfl⟩ := Int.eq_ofNat_of_zero_le h0
  obtain ⟨q, rfl⟩ := Int.eq_ofNat_of_zero_le (show 0 ≤ c by omega)
  simp only [Int.toNat_natCast] at hl h
  obtain ⟨i0, hi, hzz⟩ := Option.map_eq_some_iff.1 hinfo
  simp only [Prod.mk.injEq] at hzz
  obtain ⟨hz0, hz1, hz2⟩ := hzz
  have hm : q ≤ 281474976710656 := Nat.le_trans (Nat.le_mul_of_pos_right _ hb0) hl
  have hr := run_make (P := P) W t e i0 z ht hi hz0 kx ky (m : Int) (q : Int) (by omega) hnc
    (by
      have h3 : ((i0.bytes * q : Nat) : Int) ≤ 281474976710656 := by rw [hz2, Nat.mul_comm]; omega
      rwa [Int.natCast_mul] at h3) (by omega)
  simp only [Int.toNat_natCast] at hr
  rw [hz1] at hr
  refine event_run hgd (by simp [execOp, ho, hx, hy, hr]) (h _ _ (R_made d base e bytes z hz hs0 hb0 z0 hzero hok hfresh hbase m q (by omega) hl) (HB.alloc hbase _) (World.grownBy_alloc W _ none) ⟨W.heap.size, by simp [Value.ownBlock], Nat.le_refl _⟩)
end
end Kd
end Go.Proofs.YtcnpekpgghppnaaW.PrintWords

namespace Go.Proofs.Ytcnpekpgghppnaa.Q
open Go.RowKit Go.Proofs.YtcnpekpgghppnaaW.PrintWords Go.Proofs.YtcnpekpgghppnaaW.PrintLast Go.Proofs.YtcnpekpgghppnaaW.PrintMore
attribute [local go_sem] max2_int min2_int max_two min_two max_three min_three max_four min_four   -- for this text's walks alone
set_option linter.unusedVariables false
set_option linter.unusedSimpArgs false



def errW : Option Int → Value
  | none => .nilIface
  | some c => .iface 0 (.int .i64 c)
theorem errW_none : errW none = .nilIface := rfl
theorem errW_some (c : Int) : errW (some c) = .iface 0 (.int .i64 c) := rfl

theorem info3 : (Try.prog.info? 3).map (fun i => (i.zero, i.size, i.bytes)) = some (some (.int .i64 0), 1, 8) := by kernel_rfl
theorem info26 : (Try.prog.info? 26).map (fun i => (i.zero, i.size, i.bytes)) = some (some (.agg #[(.int .i64 0), (.int .i64 0), (.int .i64 0), (.int .i64 0), (.slice none 0 0)]), 5, 56) := by kernel_rfl
-- the values' own types
/-! #### struct type 23 -/
structure S23 where
  f0 : Int
  f1 : Int
  f2 : Int
  f3 : Int
def z23 : S23 := ⟨(0 : Int), (0 : Int), (0 : Int), (0 : Int)⟩
def k23 : Kd S23 := Kd.iso (Kd.pair (Kd.int .i64) (Kd.pair (Kd.int .i64) (Kd.pair (Kd.int .i64) (Kd.int .i64)))) (fun x : S23 => (x.f0, x.f1, x.f2, x.f3))
theorem k23_open {w : World} {x : S23} {cs : List Value} (h : k23.K w x cs) : cs = [.int .i64 x.f0, .int .i64 x.f1, .int .i64 x.f2, .int .i64 x.f3] := by
  obtain ⟨_, _, rfl, rfl, ⟨_, _, rfl, rfl, ⟨_, _, rfl, rfl, rfl⟩⟩⟩ := h
  exact rfl
theorem k23_openM {w : World} {base : Nat} {ok : Nat → Prop} {x : S23} {cs : List Value} (h : k23.M w base ok x cs) : cs = [.int .i64 x.f0, .int .i64 x.f1, .int .i64 x.f2, .int .i64 x.f3] := by
  obtain ⟨_, _, rfl, rfl, ⟨_, _, rfl, rfl, ⟨_, _, rfl, rfl, rfl⟩⟩⟩ := h
  exact rfl
theorem k23_mk (w : World) (x : S23)  : k23.K w x [.int .i64 x.f0, .int .i64 x.f1, .int .i64 x.f2, .int .i64 x.f3] := ⟨[.int .i64 x.f0], [.int .i64 x.f1, .int .i64 x.f2, .int .i64 x.f3], rfl, rfl, ⟨[.int .i64 x.f1], [.int .i64 x.f2, .int .i64 x.f3], rfl, rfl, ⟨[.int .i64 x.f2], [.int .i64 x.f3], rfl, rfl, rfl⟩⟩⟩
theorem k23_mkM (w : World) (base : Nat) (ok : Nat → Prop) (x : S23)  : k23.M w base ok x [.int .i64 x.f0, .int .i64 x.f1, .int .i64 x.f2, .int .i64 x.f3] := ⟨[.int .i64 x.f0], [.int .i64 x.f1, .int .i64 x.f2, .int .i64 x.f3], rfl, rfl, ⟨[.int .i64 x.f1], [.int .i64 x.f2, .int .i64 x.f3], rfl, rfl, ⟨[.int .i64 x.f2], [.int .i64 x.f3], rfl, rfl, rfl⟩⟩⟩
theorem k23_mkF (W : World) (ok : Nat → Prop) (x : S23) : Kd.FK k23 W ok x [.int .i64 x.f0, .int .i64 x.f1, .int .i64 x.f2, .int .i64 x.f3] := fun W2 _ => k23_mk W2 x
def rd_T23 (xs : List S23) (i : Int) : S23 := xs.getD i.toNat z23
theorem at_T23 {w : World} {A : Option Addr} {n : Nat} {xs : List S23} (h : Kd.C k23 w A n xs) (i : Int) (h0 : 0 ≤ i) (h1 : i < n) : ∃ ad , A = some ad ∧ w.cell? (ad.add (i.toNat * 4)) = some (.int .i64 (rd_T23 xs i).f0) ∧ w.cell? ⟨(ad.add (i.toNat * 4)).block, (ad.add (i.toNat * 4)).off + 1, none⟩ = some (.int .i64 (rd_T23 xs i).f1) ∧ w.cell? ⟨(ad.add (i.toNat * 4)).block, (ad.add (i.toNat * 4)).off + 2, none⟩ = some (.int .i64 (rd_T23 xs i).f2) ∧ w.cell? ⟨(ad.add (i.toNat * 4)).block, (ad.add (i.toNat * 4)).off + 3, none⟩ = some (.int .i64 (rd_T23 xs i).f3) := by
  obtain ⟨ad, c, e, _, hK, hc0⟩ := Kd.C_get h z23 i h0 h1
  have hc : ∀ j u, c[j]? = some u → w.cell? (ad.add (i.toNat * 4 + j)) = some u := hc0
  obtain rfl := k23_open hK
  exact ⟨ad, e, hc 0 _ rfl, by rw [← add_field _ _ 1 (by omega)]; exact hc 1 _ rfl, by rw [← add_field _ _ 2 (by omega)]; exact hc 2 _ rfl, by rw [← add_field _ _ 3 (by omega)]; exact hc 3 _ rfl⟩

def rd_L2 (xs : List (List Int)) (i : Int) : (List Int) := xs.getD i.toNat ([] : List Int)
theorem at_L2 {w : World} {A : Option Addr} {n : Nat} {xs : List (List Int)} (h : Kd.C (Kd.slice 3 (Kd.int .i64)) w A n xs) (i : Int) (h0 : 0 ≤ i) (h1 : i < n) : ∃ ad A0 c0, A = some ad ∧ w.cell? (ad.add i.toNat) = some (.slice A0 (rd_L2 xs i).length c0) ∧ (rd_L2 xs i).length ≤ c0 ∧ (Kd.int .i64).C w A0 (rd_L2 xs i).length (rd_L2 xs i) := by
  obtain ⟨ad, c, e, _, hK, hc0⟩ := Kd.C_get h ([] : List Int) i h0 h1
  have hc : ∀ j u, c[j]? = some u → w.cell? (ad.add (i.toNat * 1 + j)) = some u := hc0
  obtain ⟨A0, c0, rfl, l0, g0⟩ := hK
  exact ⟨ad, A0, c0, e, by have hq := hc 0 _ rfl; rwa [Nat.mul_one, Nat.add_zero] at hq, l0, g0⟩

/-! #### struct type 26 -/
structure S26 where
  f0 : S23
  f1 : (List Int)
def z26 : S26 := ⟨z23, ([] : List Int)⟩
def k26 : Kd S26 := Kd.iso (Kd.pair k23 (Kd.slice 3 (Kd.int .i64))) (fun x : S26 => (x.f0, x.f1))
theorem k26_open {w : World} {x : S26} {cs : List Value} (h : k26.K w x cs) : ∃ A4 c4, cs = [.int .i64 x.f0.f0, .int .i64 x.f0.f1, .int .i64 x.f0.f2, .int .i64 x.f0.f3, .slice A4 x.f1.length c4] ∧ x.f1.length ≤ c4 ∧ (Kd.int .i64).C w A4 x.f1.length x.f1 := by
  obtain ⟨_, _, rfl, s0, ⟨A4, c4, rfl, l4, g4⟩⟩ := h
  obtain rfl := k23_open s0
  exact ⟨A4, c4, rfl, l4, g4⟩
theorem k26_openM {w : World} {base : Nat} {ok : Nat → Prop} {x : S26} {cs : List Value} (h : k26.M w base ok x cs) : ∃ v4, cs = [.int .i64 x.f0.f0, .int .i64 x.f0.f1, .int .i64 x.f0.f2, .int .i64 x.f0.f3, v4] ∧ (Kd.int .i64).R 3 w base ok v4 x.f1 := by
  obtain ⟨_, _, rfl, s0, ⟨v4, rfl, g4⟩⟩ := h
  obtain rfl := k23_openM s0
  exact ⟨v4, rfl, g4⟩
theorem k26_mk (w : World) (x : S26) {A4 : Option Addr} {c4 : Nat} (l4 : x.f1.length ≤ c4) (g4 : (Kd.int .i64).C w A4 x.f1.length x.f1) : k26.K w x [.int .i64 x.f0.f0, .int .i64 x.f0.f1, .int .i64 x.f0.f2, .int .i64 x.f0.f3, .slice A4 x.f1.length c4] := ⟨[.int .i64 x.f0.f0, .int .i64 x.f0.f1, .int .i64 x.f0.f2, .int .i64 x.f0.f3], [.slice A4 x.f1.length c4], rfl, (k23_mk w x.f0 ), ⟨A4, c4, rfl, l4, g4⟩⟩
theorem k26_mkM (w : World) (base : Nat) (ok : Nat → Prop) (x : S26) {v4 : Value} (g4 : (Kd.int .i64).R 3 w base ok v4 x.f1) : k26.M w base ok x [.int .i64 x.f0.f0, .int .i64 x.f0.f1, .int .i64 x.f0.f2, .int .i64 x.f0.f3, v4] := ⟨[.int .i64 x.f0.f0, .int .i64 x.f0.f1, .int .i64 x.f0.f2, .int .i64 x.f0.f3], [v4], rfl, (k23_mkM w base ok x.f0 ), ⟨v4, rfl, g4⟩⟩
theorem k26_openF {W : World} {ok : Nat → Prop} {x : S26} {cs : List Value} (h : Kd.FK k26 W ok x cs) : ∃ A4 c4, cs = [.int .i64 x.f0.f0, .int .i64 x.f0.f1, .int .i64 x.f0.f2, .int .i64 x.f0.f3, .slice A4 x.f1.length c4] ∧ x.f1.length ≤ c4 ∧ Kd.F (Kd.int .i64) W ok A4 x.f1.length x.f1 := by
  obtain ⟨A4, c4, rfl, l4, _⟩ := k26_open (Kd.FK_now h)
  exact ⟨A4, c4, rfl, l4, (fun W' hW => by obtain ⟨A4_, c4_, he, l4_, g4_⟩ := k26_open (h W' hW); injection (Option.some.inj (show some (Value.slice A4 x.f1.length c4) = some (Value.slice A4_ x.f1.length c4_) from congrArg (fun l => l[4]?) he)) with ha_ _ _; rw [ha_]; exact g4_)⟩
theorem k26_mkF (W : World) (ok : Nat → Prop) (x : S26) {A4 : Option Addr} {c4 : Nat} (l4 : x.f1.length ≤ c4) (g4 : Kd.F (Kd.int .i64) W ok A4 x.f1.length x.f1) : Kd.FK k26 W ok x [.int .i64 x.f0.f0, .int .i64 x.f0.f1, .int .i64 x.f0.f2, .int .i64 x.f0.f3, .slice A4 x.f1.length c4] := fun W2 hW => k26_mk W2 x l4 (g4 W2 hW)
def rd_T26 (xs : List S26) (i : Int) : S26 := xs.getD i.toNat z26
theorem at_T26 {w : World} {A : Option Addr} {n : Nat} {xs : List S26} (h : Kd.C k26 w A n xs) (i : Int) (h0 : 0 ≤ i) (h1 : i < n) : ∃ ad A4 c4, A = some ad ∧ w.cell? (ad.add (i.toNat * 5)) = some (.int .i64 (rd_T26 xs i).f0.f0) ∧ w.cell? ⟨(ad.add (i.toNat * 5)).block, (ad.add (i.toNat * 5)).off + 1, none⟩ = some (.int .i64 (rd_T26 xs i).f0.f1) ∧ w.cell? ⟨(ad.add (i.toNat * 5)).block, (ad.add (i.toNat * 5)).off + 2, none⟩ = some (.int .i64 (rd_T26 xs i).f0.f2) ∧ w.cell? ⟨(ad.add (i.toNat * 5)).block, (ad.add (i.toNat * 5)).off + 3, none⟩ = some (.int .i64 (rd_T26 xs i).f0.f3) ∧ w.cell? ⟨(ad.add (i.toNat * 5)).block, (ad.add (i.toNat * 5)).off + 4, none⟩ = some (.slice A4 (rd_T26 xs i).f1.length c4) ∧ (rd_T26 xs i).f1.length ≤ c4 ∧ (Kd.int .i64).C w A4 (rd_T26 xs i).f1.length (rd_T26 xs i).f1 := by
  obtain ⟨ad, c, e, _, hK, hc0⟩ := Kd.C_get h z26 i h0 h1
  have hc : ∀ j u, c[j]? = some u → w.cell? (ad.add (i.toNat * 5 + j)) = some u := hc0
  obtain ⟨A4, c4, rfl, l4, g4⟩ := k26_open hK
  exact ⟨ad, A4, c4, e, hc 0 _ rfl, by rw [← add_field _ _ 1 (by omega)]; exact hc 1 _ rfl, by rw [← add_field _ _ 2 (by omega)]; exact hc 2 _ rfl, by rw [← add_field _ _ 3 (by omega)]; exact hc 3 _ rfl, by rw [← add_field _ _ 4 (by omega)]; exact hc 4 _ rfl, l4, g4⟩

end Go.Proofs.Ytcnpekpgghppnaa.Q

/- A struct that fills a block, loaded and stored as a whole. -/
namespace Go.Proofs.Ytcnpekpgghppnaa.Q
open Go.RowKit Go.Proofs.YtcnpekpgghppnaaW.PrintWords Go.Proofs.YtcnpekpgghppnaaW.PrintLast Go.Proofs.YtcnpekpgghppnaaW.PrintMore
set_option linter.unusedVariables false
set_option linter.unusedSimpArgs false
/-- Some cells of a block are stored, one behind the other. -/
def setL (W : World) (g : Nat) : Nat → List Value → World
  | _, [] => W
  | i, v :: vs => setL (W.setCell ⟨g, i, none⟩ v) g (i + 1) vs
def setA (c : Array Value) : Nat → List Value → Array Value
  | _, [] => c
  | i, v :: vs => setA (c.setIfInBounds i v) (i + 1) vs
theorem setL_blk {g t : Nat} : ∀ (vs : List Value) (W : World) (i : Nat) (c : Array Value), W.heap[g]? = some (.cells c t (0, 0)) → (setL W g i vs).heap[g]? = some (.cells (setA c i vs) t (0, 0))
  | [], _, _, _, h => h
  | v :: vs, W, i, c, h => setL_blk vs _ (i + 1) _ (blk_set h i v)
theorem setA_list : ∀ (vs : List Value) (i : Nat) (c : Array Value), c.size = i + vs.length → (setA c i vs).toList = c.toList.take i ++ vs
  | [], i, c, h => by
    rw [setA, List.append_nil, List.take_of_length_le (by simp at h ⊢; omega)]
  | v :: vs, i, c, h => by
    have h' : i < c.size := by simp at h; omega
    rw [setA, setA_list vs (i + 1) _ (by simp at h ⊢; omega)]
    rw [Array.toList_setIfInBounds, List.take_succ_eq_append_getElem (by simp; omega), List.take_set_of_le (Nat.le_refl _)]
    simp
theorem setL_full {W : World} {g t : Nat} {c : Array Value} (h : W.heap[g]? = some (.cells c t (0, 0))) (vs : List Value) (hl : c.size = vs.length) : (setL W g 0 vs).heap[g]? = some (.cells vs.toArray t (0, 0)) := by
  rw [setL_blk vs W 0 c h]
  have := setA_list vs 0 c (by omega)
  simp only [List.take_zero, List.nil_append] at this
  rw [show setA c 0 vs = vs.toArray from Array.toList_inj.1 (by rw [this])]
theorem setL_below {w : World} {g B : Nat} (hg : B ≤ g) : ∀ (vs : List Value) (W : World) (i : Nat), Below B w W → Below B w (setL W g i vs)
  | [], _, _, h => h
  | v :: vs, W, i, h => setL_below hg vs _ (i + 1) (h.setCell (p := ⟨g, i, none⟩) hg v)
theorem setL_far {g g' : Nat} {o : Obj} (hg : g' ≠ g) : ∀ (vs : List Value) (W : World) (i : Nat), W.heap[g']? = some o → (setL W g i vs).heap[g']? = some o
  | [], _, _, h => h
  | v :: vs, W, i, h => setL_far hg vs _ (i + 1) ((Below.heap_setCell W ⟨g, i, none⟩ v g' hg).trans h)
theorem setL_R {α : Type} {d : Kd α} {e base : Nat} {ok : Nat → Prop} {v : Value} {xs : List α} {g : Nat} (hok : ∀ k, ok k → k ≠ g) : ∀ (vs : List Value) (W : World) (i : Nat), d.R e W base ok v xs → d.R e (setL W g i vs) base ok v xs
  | [], _, _, h => h
  | u :: vs, W, i, h => setL_R hok vs _ (i + 1) (Kd.R_far (p := ⟨g, i, none⟩) h hok u)

section
variable {P : Program} {ops : Array Oper} {rest : List Oper} {o : Oper} {a : Act} {Q : Exit → Act → World → Prop} {W : World} {g t : Nat} {cs old : Array Value} {ty : TypeId} {fs : Array Field} {K : Act → World → Prop}
theorem range_blk (hb : W.heap[g]? = some (.cells cs t (0, 0))) : W.rangeAt g 0 cs.toList := fun j v hv => by
  rw [Nat.zero_add, blk_cell hb j]
  simpa using hv
theorem there_blk (hb : W.heap[g]? = some (.cells old t (0, 0))) {n : Nat} (hn : old.size = n) : W.there g 0 n := fun j hj => by
  rw [Nat.zero_add, blk_cell hb j]
  refine ⟨?_, blk_frozen hb j⟩
  rw [Array.getElem?_eq_getElem (by omega)]
  rfl
theorem setCells_setL (g : Nat) : ∀ (vs : List Value) (W : World) (i : Nat), W.setCells g i vs = setL W g i vs
  | [], _, _ => rfl
  | v :: vs, W, i => by
    show World.setCells _ g (i + 1) vs = _
    rw [setCells_setL g vs]
    rfl
theorem run_load_blk (hb : W.heap[g]? = some (.cells cs t (0, 0))) (hu : P.underlying ty = some (.struct fs)) (hi : (P.info? ty).map (·.size) = some cs.size) : (Instr.loadAt ty (.pointer (some ⟨g, 0, none⟩))).run P W = .ok (.agg cs) W := by
  have := run_loadAt_mid (P := P) W g 0 ty cs.toList (.struct fs) (range_blk hb) hu rfl (by simpa using hi)
  simpa using this
theorem run_store_blk (hb : W.heap[g]? = some (.cells old t (0, 0))) (hs : old.size = cs.size) (hi : (P.info? ty).map (·.size) = some cs.size) (h1 : cs.all (·.oneCell') = true) : (Instr.storeAt ty (.pointer (some ⟨g, 0, none⟩)) (.agg cs)).run P W = .ok () (setL W g 0 cs.toList) := by
  rw [← setCells_setL]
  exact run_storeAt_mid W g 0 ty cs (there_blk hb hs) hi h1
/-- What a store of a whole struct leaves. -/
structure Stored (W : World) (g t : Nat) (cs : Array Value) (W' : World) : Prop where
  blk : W'.heap[g]? = some (.cells cs t (0, 0))
  far : ∀ (g' : Nat) (o : Obj), g' ≠ g → W.heap[g']? = some o → W'.heap[g']? = some o
  below : ∀ (B : Nat) (w : World), B ≤ g → Below B w W → Below B w W'
  row : ∀ {α : Type} {d : Kd α} {e base : Nat} {ok : Nat → Prop} {v : Value} {xs : List α}, (∀ k, ok k → k ≠ g) → d.R e W base ok v xs → d.R e W' base ok v xs
theorem stored (hb : W.heap[g]? = some (.cells old t (0, 0))) (hs : old.size = cs.size) : Stored W g t cs (setL W g 0 cs.toList) :=
  ⟨by have := setL_full hb cs.toList (by simpa using hs); simpa using this, fun g' o hg h => setL_far hg cs.toList W 0 h, fun B w hB h => setL_below hB cs.toList W 0 h, fun hok h => setL_R hok cs.toList W 0 h⟩
theorem load_ev (hgd : o.guard = none) (ty : TypeId) (x : Operand) (ho : o.op = .load ty x) (hx : a.eval x = .pointer (some ⟨g, 0, none⟩)) (hb : W.heap[g]? = some (.cells cs t (0, 0))) (hu : P.underlying ty = some (.struct fs)) (hi : (P.info? ty).map (·.size) = some cs.size)
    (h : wpList P ops Q rest (a.put o.dst (.agg cs)) W) : wpList P ops Q (o :: rest) a W :=
  wpList_plain hgd fun K hK => by
    unfold Oper.wp execOp
    simp only [ho, hx, Sem.run_bind, run_load_blk hb hu hi, Result.andThen_ok, Sem.run_pure]
    exact hK _ _ h
theorem store_ev (hgd : o.guard = none) (hN : o.dst = none) (ty : TypeId) (x y : Operand) (ho : o.op = .store ty x y) (hx : a.eval x = .pointer (some ⟨g, 0, none⟩)) (hy : a.eval y = .agg cs) (hb : W.heap[g]? = some (.cells old t (0, 0))) (hs : old.size = cs.size) (hi : (P.info? ty).map (·.size) = some cs.size) (h1 : cs.all (·.oneCell') = true)
    (h : ∀ W', Stored W g t cs W' → wpList P ops Q rest a W') : wpList P ops Q (o :: rest) a W :=
  wpList_plain hgd fun K hK => by
    unfold Oper.wp execOp
    simp only [ho, hx, hy, Sem.run_bind, run_store_blk hb hs hi h1, Result.andThen_ok, Sem.run_pure]
    show K (a.put o.dst undef) _
    rw [hN]
    exact hK _ _ (h _ (stored hb hs))
theorem load_yields {S : World → Prop} (hw : Region.wanted o (yielded ops a.tmps) = true) (ty : TypeId) (x : Operand) (ho : o.op = .load ty x) (hx : a.eval x = .pointer (some ⟨g, 0, none⟩)) (hS : ∀ w, S w → w.heap[g]? = some (.cells cs t (0, 0))) (hu : P.underlying ty = some (.struct fs)) (hi : (P.info? ty).map (·.size) = some cs.size) : YieldsIf P ops S o (.agg cs) a :=
  .inl ⟨hw, fun w hw' => by
    unfold execOp
    simp only [ho, hx, Sem.run_bind, run_load_blk (hS w hw') hu hi, Result.andThen_ok, Sem.run_pure]⟩
theorem store_step (hw : Region.wanted o (yielded ops a.tmps) = true) (hN : o.dst = none) (ty : TypeId) (x y : Operand) (ho : o.op = .store ty x y) (hx : a.eval x = .pointer (some ⟨g, 0, none⟩)) (hy : a.eval y = .agg cs) (hb : W.heap[g]? = some (.cells old t (0, 0))) (hs : old.size = cs.size) (hi : (P.info? ty).map (·.size) = some cs.size) (h1 : cs.all (·.oneCell') = true)
    (h : ∀ W', Stored W g t cs W' → K a W') : if Region.wanted o (yielded ops a.tmps) = true then Oper.wp P o a W K Q else K (a.put none undef) W := by
  refine skip_ (w1 := setL W g 0 cs.toList) hw hN ?_ (h _ (stored hb hs))
  unfold execOp
  simp only [ho, hx, hy, Sem.run_bind, run_store_blk hb hs hi h1, Result.andThen_ok, Sem.run_pure]
end
/-- Blocks that are held: each full, no two alike. -/
structure Bks (n : Nat) (w0 W : World) (l : List (Nat × Nat × Array Value)) : Prop where
  blk : ∀ (i : Nat) (b : Nat × Nat × Array Value), l[i]? = some b → W.heap[b.1]? = some (.cells b.2.2 b.2.1 (0, 0))
  ne : ∀ (i j : Nat) (b c : Nat × Nat × Array Value), i ≠ j → l[i]? = some b → l[j]? = some c → b.1 ≠ c.1
  ge : ∀ (i : Nat) (b : Nat × Nat × Array Value), l[i]? = some b → n ≤ b.1
  below : Below n w0 W
namespace Bks
variable {n : Nat} {w0 W W' : World} {l : List (Nat × Nat × Array Value)} {i g t : Nat} {cs : Array Value}
theorem nil (w : World) : Bks w.heap.size w w [] := ⟨fun i b h => by simp at h, fun i j b c _ h => by simp at h, fun i b h => by simp at h, Below.refl _ _⟩
theorem get (h : Bks n w0 W l) (i : Nat) (hi : l[i]? = some (g, t, cs)) : W.heap[g]? = some (.cells cs t (0, 0)) := h.blk i _ hi
theorem cell (h : Bks n w0 W l) (i : Nat) (hi : l[i]? = some (g, t, cs)) (j : Nat) {v : Value} (hv : cs[j]? = some v) : W.cell? ⟨g, j, none⟩ = some v := (blk_cell (h.get i hi) j).trans hv
theorem call (h : Bks n w0 W l) (hn : n ≤ W.heap.size) (hb : Below W.heap.size W W') : Bks n w0 W' l :=
  ⟨fun i b hi => blk_below (h.blk i b hi) hb, h.ne, h.ge, h.below.trans (hb.mono hn)⟩
theorem into (h : Bks n w0 W l) (hi : l[i]? = some (g, t, cs)) (cs' : Array Value) (h1 : W'.heap[g]? = some (.cells cs' t (0, 0))) (h2 : ∀ (g' : Nat) (o : Obj), g' ≠ g → W.heap[g']? = some o → W'.heap[g']? = some o) (h3 : Below n w0 W') : Bks n w0 W' (l.set i (g, t, cs')) := by
  have key : ∀ (j : Nat) (b : Nat × Nat × Array Value), (l.set i (g, t, cs'))[j]? = some b → (j = i ∧ b = (g, t, cs')) ∨ (j ≠ i ∧ l[j]? = some b) := by
    intro j b hj
    by_cases hji : j = i
    · subst hji
      rw [List.getElem?_set] at hj
      rw [if_pos rfl] at hj
      split at hj
      · exact .inl ⟨rfl, (Option.some.inj hj).symm⟩
      · exact absurd hj (by simp)
    · rw [List.getElem?_set, if_neg (Ne.symm hji)] at hj
      exact .inr ⟨hji, hj⟩
  have nm : ∀ (j : Nat) (b : Nat × Nat × Array Value), (l.set i (g, t, cs'))[j]? = some b → ∃ c, l[j]? = some c ∧ c.1 = b.1 := by
    intro j b hj
    rcases key j b hj with ⟨rfl, rfl⟩ | ⟨_, h'⟩
    · exact ⟨_, hi, rfl⟩
    · exact ⟨_, h', rfl⟩
  refine ⟨fun j b hj => ?_, fun j k b c hjk hj hk => ?_, fun j b hj => ?_, h3⟩
  · rcases key j b hj with ⟨rfl, rfl⟩ | ⟨hne, h'⟩
    · exact h1
    · exact h2 _ _ (h.ne j i _ _ hne h' hi) (h.blk j b h')
  · obtain ⟨b', hb', e1⟩ := nm j b hj
    obtain ⟨c', hc', e2⟩ := nm k c hk
    rw [← e1, ← e2]
    exact h.ne j k _ _ hjk hb' hc'
  · obtain ⟨b', hb', e1⟩ := nm j b hj
    rw [← e1]
    exact h.ge j _ hb'
theorem set (h : Bks n w0 W l) (i : Nat) (hi : l[i]? = some (g, t, cs)) (j : Nat) (v : Value) {cs' : Array Value} (hcs : cs.setIfInBounds j v = cs') : Bks n w0 (W.setCell ⟨g, j, none⟩ v) (l.set i (g, t, cs')) :=
  h.into hi cs' (blk_put (h.get i hi) j v hcs) (fun g' o hg ho => (Below.heap_setCell W ⟨g, j, none⟩ v g' hg).trans ho) (h.below.setCell (p := ⟨g, j, none⟩) (h.ge i _ hi) v)
theorem stored (h : Bks n w0 W l) (i : Nat) (hi : l[i]? = some (g, t, cs)) {cs' : Array Value} (hs : Stored W g t cs' W') : Bks n w0 W' (l.set i (g, t, cs')) :=
  h.into hi cs' hs.blk hs.far (hs.below _ _ (h.ge i _ hi) h.below)
theorem box (h : Bks n w0 W l) (hn : n ≤ W.heap.size) (hg : g = W.heap.size) (hbox : W'.heap[g]? = some (.cells cs t (0, 0))) (hb : Below W.heap.size W W') : Bks n w0 W' ((g, t, cs) :: l) := by
  have lt : ∀ (j : Nat) (b : Nat × Nat × Array Value), l[j]? = some b → b.1 < g := fun j b hj => hg ▸ blk_lt (h.blk j b hj)
  have h' := h.call hn hb
  refine ⟨fun j b hj => ?_, fun j k b c hjk hj hk => ?_, fun j b hj => ?_, h'.below⟩
  · cases j with
    | zero => obtain rfl : (g, t, cs) = b := by simpa using hj
              exact hbox
    | succ j => exact h'.blk j b (by simpa using hj)
  · cases j with
    | zero => obtain rfl : (g, t, cs) = b := by simpa using hj
              cases k with
              | zero => exact absurd rfl hjk
              | succ k => exact Nat.ne_of_gt (lt k c (by simpa using hk))
    | succ j => cases k with
              | zero => obtain rfl : (g, t, cs) = c := by simpa using hk
                        exact Nat.ne_of_lt (lt j b (by simpa using hj))
              | succ k => exact h.ne j k b c (fun e => hjk (by rw [e])) (by simpa using hj) (by simpa using hk)
  · cases j with
    | zero => obtain rfl : (g, t, cs) = b := by simpa using hj
              exact hg ▸ hn
    | succ j => exact h.ge j b (by simpa using hj)
theorem alloc (h : Bks n w0 W l) (hn : n ≤ W.heap.size) (cs : Array Value) (t : Nat) : Bks n w0 (W.alloc (.cells cs t)) ((W.heap.size, t, cs) :: l) :=
  h.box hn rfl (blk_new W _) (below_alloc (Below.refl _ _) _)
theorem drew (h : Bks n w0 W l) : Bks n w0 W.drew l := ⟨h.blk, h.ne, h.ge, below_drew1 h.below⟩
theorem swap {x y : Nat × Nat × Array Value} (h : Bks n w0 W (x :: y :: l)) : Bks n w0 W (y :: x :: l) := by
  have key : ∀ i b, (y :: x :: l)[i]? = some b → ∃ j, (x :: y :: l)[j]? = some b ∧ j = (if i = 0 then 1 else if i = 1 then 0 else i) := by
    intro i b hi
    match i, hi with
    | 0, hi => exact ⟨1, by simpa using hi, rfl⟩
    | 1, hi => exact ⟨0, by simpa using hi, rfl⟩
    | i + 2, hi => exact ⟨i + 2, by simpa using hi, by simp⟩
  refine ⟨fun i b hi => ?_, fun i j b c hij hi hj => ?_, fun i b hi => ?_, h.below⟩
  · obtain ⟨k, hk, _⟩ := key i b hi
    exact h.blk k b hk
  · obtain ⟨k, hk, e1⟩ := key i b hi
    obtain ⟨m, hm, e2⟩ := key j c hj
    refine h.ne k m b c (fun e => hij ?_) hk hm
    rcases i with _ | _ | i <;> rcases j with _ | _ | j <;> simp at e1 e2 <;> omega
  · obtain ⟨k, hk, _⟩ := key i b hi
    exact h.ge k b hk
end Bks
theorem row_set {α : Type} {d : Kd α} {e base g t : Nat} {W : World} {cs : Array Value} {v : Value} {xs : List α} (hR : d.R e W base (fun _ => True) v xs) (hb : W.heap[g]? = some (.cells cs t (0, 0))) (ht : ∀ q, q ∈ e :: d.E → q ≠ t) (j : Nat) (u : Value) : d.R e (W.setCell ⟨g, j, none⟩ u) base (fun _ => True) v xs :=
  Kd.R_mono (Kd.R_far (p := ⟨g, j, none⟩) (Kd.R_types hR hb ht) (fun _ hk => hk.2) u) (fun _ _ => trivial)
theorem row_stored {α : Type} {d : Kd α} {e base g t : Nat} {W W' : World} {cs cs' : Array Value} {v : Value} {xs : List α} (hR : d.R e W base (fun _ => True) v xs) (hb : W.heap[g]? = some (.cells cs t (0, 0))) (ht : ∀ q, q ∈ e :: d.E → q ≠ t) (hs : Stored W g t cs' W') : d.R e W' base (fun _ => True) v xs :=
  Kd.R_mono (hs.row (fun _ hk => hk.2) (Kd.R_types hR hb ht)) (fun _ _ => trivial)
end Go.Proofs.Ytcnpekpgghppnaa.Q

/- The line: a number at a mirrored place; what is predicted, what is updated. Printed by wip/tools of this session. -/
namespace Go.Proofs.Ytcnpekpgghppnaa.Q
open Go.RowKit Go.Proofs.YtcnpekpgghppnaaW.PrintWords Go.Proofs.YtcnpekpgghppnaaW.PrintLast Go.Proofs.YtcnpekpgghppnaaW.PrintMore
set_option linter.unusedVariables false
set_option linter.unusedSimpArgs false

/-- The place that the mirror leads to. -/
def mirF : Nat → Int → Int → Option Int
  | 0, _, _ => none
  | k + 1, last, i => if i < 0 then mirF k last (wrap64 (-i)) else if i > last then mirF k last (wrap64 (wrap64 (2 * last) - i)) else some i
set_option maxHeartbeats 8000000 in
set_option maxRecDepth 100000 in
theorem line_at.calls (k : Nat) (A : Option Addr) (c : Nat) (xs : List Int) (start i m : Int) (w : World) (hr : Kd.C (Kd.int .i64) w A xs.length xs) (h : mirF k (wrap64 ((xs.length : Int) - 1)) i = some m) (h0 : 0 ≤ m) (h1 : m < (xs.length : Int)) :
    Calls Try.prog 85 #[.agg #[.slice A xs.length c, .int .i64 start], .int .i64 i] w fun e w' => e = .returned (.int .i64 (rd xs m)) ∧ Below w.heap.size w w' := by
  have H := Aside0.mk h
  have HR := Aside0.mk hr
  have HM := Aside0.mk (And.intro h0 h1)
  clear h hr h0 h1
  have K00 := Aside0.mk (Bks.nil w)
  go_enter Try.func85, Try.ntmps85
  go_wp2_with (first
    | ((with_reducible refine gate_dst (N := 2) rfl ?_); refine box_event ?hg (N := 2) ?hd (cs := #[.slice A xs.length c, .int .i64 start]) (t := 97) ?hr ?_; (case hd => rfl); (case hg => rfl); (case hr => first | (go_simp; done) | (go_simp; rfl)); intro g2 hg W2 hbox hb; have K := Aside0.mk (K00.out.box (Nat.le_refl _) hg hbox hb); clear hg hbox hb K00; have f0 : W2.cell? ⟨g2, 0, none⟩ = some (.slice A xs.length c) := K.out.cell 0 rfl 0 rfl))
  go_loopg [1] k (fun kq v1 w' => ∃ i : Int, v1 = .int .i64 i ∧ Aside0 (mirF kq (wrap64 ((xs.length : Int) - 1)) i = some m) ∧ w' = W2)
  case atStart => exact ⟨i, rfl, H, rfl⟩
  case round =>
  clear H
  obtain ⟨i, rfl, HX, rfl⟩ := hrel
  cases gk with
  | zero => exact absurd HX.out (by simp [mirF])
  | succ kk =>
  have hs := HX.out
  clear HX
  rw [mirF.eq_2] at hs
  by_cases h1 : i < 0
  · rw [if_pos h1] at hs
    have HX := Aside0.mk hs
    have b1 : decide (i < 0) = true := decide_eq_true h1
    clear hs h1
    go_wp2
    go_roundg kk
    case measure => omega
    case rel => exact ⟨_, rfl, HX, rfl⟩
  rw [if_neg h1] at hs
  have b1 : decide (i < 0) = false := decide_eq_false h1
  by_cases h2 : i > wrap64 ((xs.length : Int) - 1)
  · rw [if_pos h2] at hs
    have HX := Aside0.mk hs
    have b2 : decide (wrap64 ((xs.length : Int) - 1) < i) = true := decide_eq_true h2
    clear hs h1 h2
    go_wp2
    go_roundg kk
    case measure => omega
    case rel => exact ⟨_, rfl, HX, rfl⟩
  rw [if_neg h2] at hs
  have b2 : decide (wrap64 ((xs.length : Int) - 1) < i) = false := decide_eq_false h2
  obtain rfl : i = m := Option.some.inj hs
  clear hs h1 h2
  obtain ⟨m0, m1⟩ := HM.out
  obtain ⟨ad, e0, hx⟩ := Kd.at_int (Kd.C_below HR.out K.out.below) i m0 m1
  subst e0
  have p0 : (0 ≤ i) = True := eq_true m0
  have p1 : (i < (xs.length : Int)) = True := eq_true m1
  clear m0 m1
  go_wp2
  go_ret
  exact ⟨rfl, K.out.below⟩
end Go.Proofs.Ytcnpekpgghppnaa.Q

/- What is predicted, what is updated. Printed by wip/tools of this session. -/
namespace Go.Proofs.Ytcnpekpgghppnaa.Q
open Go.RowKit Go.Proofs.YtcnpekpgghppnaaW.PrintWords Go.Proofs.YtcnpekpgghppnaaW.PrintLast Go.Proofs.YtcnpekpgghppnaaW.PrintMore
set_option linter.unusedVariables false
set_option linter.unusedSimpArgs false

/-- The number at a mirrored place. -/
def atF (k : Nat) (xs : List Int) (i : Int) : Option Int := (mirF k (wrap64 ((xs.length : Int) - 1)) i).bind fun m => if 0 ≤ m ∧ m < (xs.length : Int) then some (rd xs m) else none
theorem at_atF {k : Nat} {A : Option Addr} {c : Nat} {xs : List Int} {start i v : Int} {w : World} (hr : Kd.C (Kd.int .i64) w A xs.length xs) (h : atF k xs i = some v) :
    Calls Try.prog 85 #[.agg #[.slice A xs.length c, .int .i64 start], .int .i64 i] w fun e w' => e = .returned (.int .i64 v) ∧ Below w.heap.size w w' := by
  obtain ⟨m, hm, h⟩ := Option.bind_eq_some_iff.mp h
  by_cases hc : 0 ≤ m ∧ m < (xs.length : Int)
  · rw [if_pos hc] at h
    obtain rfl := Option.some.inj h
    exact line_at.calls k A c xs start i m w hr hm hc.1 hc.2
  · rw [if_neg hc] at h
    cases h
def pr1F (k : Nat) (xs : List Int) (i : Int) : Option Int := atF k xs (wrap64 (i - 1))
def pr2F (k : Nat) (xs : List Int) (i : Int) : Option Int := (atF k xs (wrap64 (i - 1))).bind fun a => (atF k xs (wrap64 (i + 1))).bind fun b => some (wrap64 (a + b) / 2)
def pr3F (k : Nat) (xs : List Int) (i : Int) : Option Int := (atF k xs (wrap64 (i - 1))).bind fun a => (atF k xs (wrap64 (i + 1))).bind fun b => (atF k xs (wrap64 (i - 3))).bind fun d => (atF k xs (wrap64 (i + 3))).bind fun f => some (wrap64 (wrap64 (wrap64 (9 * wrap64 (a + b)) - wrap64 (d + f)) + 8) / 16)
def up1F (k : Nat) (xs : List Int) (i : Int) : Option Int := (atF k xs (wrap64 (i + 1))).bind fun a => some (a / 2)
def up2F (k : Nat) (xs : List Int) (i : Int) : Option Int := (atF k xs (wrap64 (i - 1))).bind fun a => (atF k xs (wrap64 (i + 1))).bind fun b => some (wrap64 (wrap64 (a + b) + 2) / 4)
/-- Function F, over a line's box, computes fq. -/
def LineFn (F : Nat) (fq : List Int → Int → Option Int) : Prop := ∀ (g : Nat) (A : Option Addr) (c : Nat) (xs : List Int) (start i v : Int) (w : World), w.heap[g]? = some (.cells #[.slice A xs.length c, .int .i64 start] 97 (0, 0)) → Kd.C (Kd.int .i64) w A xs.length xs → fq xs i = some v → Calls Try.prog F #[.int .i64 i, .pointer (some ⟨g, 0, none⟩)] w fun e w' => e = .returned (.int .i64 v) ∧ Below w.heap.size w w'
set_option maxHeartbeats 8000000 in
set_option maxRecDepth 100000 in
theorem pr1_fn (k : Nat) : LineFn 84 (pr1F k) := by
  intro g A c xs start i v w hb hr h
  have HR := Aside0.mk hr
  have HB := Aside0.mk hb
  have H := Aside0.mk h
  clear hb hr h
  have H2 := Aside0.mk (show atF k xs (wrap64 (i - 1)) = some v from H.out)
  clear H
  have H := H2
  clear H2
  go_enter Try.func84, Try.ntmps84
  go_wp2_with (first | ((with_reducible refine gate_dst (N := 4) rfl ?_); refine load_ev rfl 97 (.tmp 1) rfl rfl HB.out Try.underlying97 rfl ?_) | (go_at_call 85; (with_reducible refine (at_atF HR.out H.out).mono ?_); rintro _ w1 ⟨rfl, b⟩; have BW := Aside0.mk b; clear b))
  go_ret
  exact ⟨rfl, BW.out⟩
set_option maxHeartbeats 8000000 in
set_option maxRecDepth 100000 in
theorem up1_fn (k : Nat) : LineFn 88 (up1F k) := by
  intro g A c xs start i v w hb hr h
  have HR := Aside0.mk hr
  have HB := Aside0.mk hb
  have H := Aside0.mk h
  clear hb hr h
  go_enter Try.func88, Try.ntmps88
  obtain ⟨a, ha, h2⟩ := Option.bind_eq_some_iff.mp H.out
  obtain rfl := Option.some.inj h2
  have HA := Aside0.mk ha
  clear ha h2 H
  go_wp2_with (first | ((with_reducible refine gate_dst (N := 4) rfl ?_); refine load_ev rfl 97 (.tmp 1) rfl rfl HB.out Try.underlying97 rfl ?_) | (go_at_call 85; (with_reducible refine (at_atF HR.out HA.out).mono ?_); rintro _ w1 ⟨rfl, b⟩; have BW := Aside0.mk b; clear b))
  go_ret
  exact ⟨rfl, BW.out⟩
set_option maxHeartbeats 8000000 in
set_option maxRecDepth 100000 in
theorem pr2_fn (k : Nat) : LineFn 86 (pr2F k) := by
  intro g A c xs start i v w hb hr h
  have HR := Aside0.mk hr
  have HB := Aside0.mk hb
  have H := Aside0.mk h
  clear hb hr h
  go_enter Try.func86, Try.ntmps86
  have h := H.out
  clear H
  obtain ⟨a, ha, h⟩ := Option.bind_eq_some_iff.mp h
  obtain ⟨e, he, h⟩ := Option.bind_eq_some_iff.mp h
  obtain rfl := Option.some.inj h
  have HA := Aside0.mk ha
  clear ha
  have HE := Aside0.mk he
  clear he
  clear h
  go_wp2
  have BW := Aside0.mk (below_drew1 (Below.refl w.heap.size w))
  have HB' := Aside0.mk (blk_drew HB.out)
  clear HB
  have HB := HB'
  clear HB'
  have HR' := Aside0.mk (Kd.C_drew HR.out)
  clear HR
  have HR := HR'
  clear HR'
  refine start_ (n := 11) (S := fun w' => w'.heap[g]? = some (.cells #[.slice A xs.length c, .int .i64 start] 97 (0, 0))) (ds := []) #[false, false, false, false, false, false, false, false, false, false, false] (by kernel_rfl) rfl rfl HB.out (fun hHeld0 => ?_)
  generalize hw0 : w.drew = w0 at *
  clear hw0
  have hHeld := Aside0.mk hHeld0
  clear hHeld0
  refine take_ (i := 0) (N := some 4) (v := .agg #[.slice A xs.length c, .int .i64 start]) (a' := ?_) #[true, false, false, false, false, false, false, false, false, false, false] rfl rfl (by kernel_rfl) (fun _ _ _ h => h) (load_yields (by rfl) 97 (.tmp 1) rfl rfl (fun _ h => h) Try.underlying97 rfl) hHeld.out ?_ ?_
  rotate_left
  · simp only [Act.put, List.setIfInBounds_toArray, List.set_cons_zero, List.set_cons_succ, i64_w, i32_w]
    rfl
  refine take_ (i := 4) (N := some 8) (v := .agg #[.slice A xs.length c, .int .i64 start]) (a' := ?_) #[true, false, false, false, true, false, false, false, false, false, false] rfl rfl (by kernel_rfl) (fun _ _ _ h => h) (load_yields (by rfl) 97 (.tmp 1) rfl rfl (fun _ h => h) Try.underlying97 rfl) hHeld.out ?_ ?_
  rotate_left
  · simp only [Act.put, List.setIfInBounds_toArray, List.set_cons_zero, List.set_cons_succ, i64_w, i32_w]
    rfl
  refine pure_ (i := 1) (N := some 5) (v := ?_) (a' := ?_) #[true, true, false, false, true, false, false, false, false, false, false] rfl rfl (by kernel_rfl) (fun _ _ _ h => h) (Or.inl ⟨by rfl, ?_⟩) ?_ ?_
  rotate_left
  · intro w'
    go_simp
    with_reducible rfl
  rotate_left
  · simp only [Act.put, List.setIfInBounds_toArray, List.set_cons_zero, List.set_cons_succ, i64_w, i32_w]
    rfl
  refine pure_ (i := 2) (N := some 6) (v := ?_) (a' := ?_) #[true, true, true, false, true, false, false, false, false, false, false] rfl rfl (by kernel_rfl) (fun _ _ _ h => h) (Or.inl ⟨by rfl, ?_⟩) ?_ ?_
  rotate_left
  · intro w'
    go_simp
    with_reducible rfl
  rotate_left
  · simp only [Act.put, List.setIfInBounds_toArray, List.set_cons_zero, List.set_cons_succ, i64_w, i32_w]
    rfl
  refine pure_ (i := 5) (N := some 9) (v := ?_) (a' := ?_) #[true, true, true, false, true, true, false, false, false, false, false] rfl rfl (by kernel_rfl) (fun _ _ _ h => h) (Or.inl ⟨by rfl, ?_⟩) ?_ ?_
  rotate_left
  · intro w'
    go_simp
    with_reducible rfl
  rotate_left
  · simp only [Act.put, List.setIfInBounds_toArray, List.set_cons_zero, List.set_cons_succ, i64_w, i32_w]
    rfl
  refine pure_ (i := 6) (N := some 10) (v := ?_) (a' := ?_) #[true, true, true, false, true, true, true, false, false, false, false] rfl rfl (by kernel_rfl) (fun _ _ _ h => h) (Or.inl ⟨by rfl, ?_⟩) ?_ ?_
  rotate_left
  · intro w'
    go_simp
    with_reducible rfl
  rotate_left
  · simp only [Act.put, List.setIfInBounds_toArray, List.set_cons_zero, List.set_cons_succ, i64_w, i32_w]
    rfl
  refine one_ (i := 3) (N := some 7) #[true, true, true, true, true, true, true, false, false, false, false] rfl rfl (by kernel_rfl) (by decide) (fun K hK => ?_)
  refine goes_ Try.func85 (by kernel_rfl) rfl #[.agg #[.slice A xs.length c, .int .i64 start], .int .i64 (wrap64 (i - 1))] (by rfl) rfl rfl (by simp only [List.map_toArray, List.map_cons, List.map_nil]; rfl) ?_
  refine (at_atF HR.out HA.out).mono ?_
  rintro _ w1 ⟨rfl, b⟩
  refine ⟨_, rfl, ?_⟩
  have HB' := Aside0.mk (blk_below HB.out b); clear HB; have HB := HB'; clear HB'
  have HR' := Aside0.mk (Kd.C_below HR.out b); clear HR; have HR := HR'; clear HR'
  have BW' := Aside0.mk (BW.out.trans (b.mono BW.out.size)); clear BW; have BW := BW'; clear BW'
  clear b
  refine hK.out _ _ HB.out (fun hHeld => ?_)
  clear hK K
  refine norm_ (a' := ?_) ?_ ?_
  rotate_left
  · show Act.put _ (some 7) _ = _
    simp only [Act.put, List.setIfInBounds_toArray, List.set_cons_zero, List.set_cons_succ, i64_w, i32_w]
    rfl
  refine one_ (i := 7) (N := some 11) #[true, true, true, true, true, true, true, true, false, false, false] rfl rfl (by kernel_rfl) (by decide) (fun K hK => ?_)
  refine goes_ Try.func85 (by kernel_rfl) rfl #[.agg #[.slice A xs.length c, .int .i64 start], .int .i64 (wrap64 (i + 1))] (by rfl) rfl rfl (by simp only [List.map_toArray, List.map_cons, List.map_nil]; rfl) ?_
  refine (at_atF HR.out HE.out).mono ?_
  rintro _ w2 ⟨rfl, b⟩
  refine ⟨_, rfl, ?_⟩
  have HB' := Aside0.mk (blk_below HB.out b); clear HB; have HB := HB'; clear HB'
  have HR' := Aside0.mk (Kd.C_below HR.out b); clear HR; have HR := HR'; clear HR'
  have BW' := Aside0.mk (BW.out.trans (b.mono BW.out.size)); clear BW; have BW := BW'; clear BW'
  clear b
  refine hK.out _ _ HB.out (fun hHeld => ?_)
  clear hK K
  refine norm_ (a' := ?_) ?_ ?_
  rotate_left
  · show Act.put _ (some 11) _ = _
    simp only [Act.put, List.setIfInBounds_toArray, List.set_cons_zero, List.set_cons_succ, i64_w, i32_w]
    rfl
  refine pure_ (i := 8) (N := some 12) (v := ?_) (a' := ?_) #[true, true, true, true, true, true, true, true, true, false, false] rfl rfl (by kernel_rfl) (fun _ _ _ h => h) (Or.inl ⟨by rfl, ?_⟩) ?_ ?_
  rotate_left
  · intro w'
    go_simp
    with_reducible rfl
  rotate_left
  · simp only [Act.put, List.setIfInBounds_toArray, List.set_cons_zero, List.set_cons_succ, i64_w, i32_w]
    rfl
  refine pure_ (i := 9) (N := some 13) (v := ?_) (a' := ?_) #[true, true, true, true, true, true, true, true, true, true, false] rfl rfl (by kernel_rfl) (fun _ _ _ h => h) (Or.inl ⟨by rfl, ?_⟩) ?_ ?_
  rotate_left
  · intro w'
    go_simp
    with_reducible rfl
  rotate_left
  · simp only [Act.put, List.setIfInBounds_toArray, List.set_cons_zero, List.set_cons_succ, i64_w, i32_w]
    rfl
  refine pure_ (i := 10) (N := some 3) (v := ?_) (a' := ?_) #[true, true, true, true, true, true, true, true, true, true, true] rfl rfl (by kernel_rfl) (fun _ _ _ h => h) (Or.inl ⟨by rfl, ?_⟩) ?_ ?_
  rotate_left
  · intro w'
    go_simp
    with_reducible rfl
  rotate_left
  · simp only [Act.put, List.setIfInBounds_toArray, List.set_cons_zero, List.set_cons_succ, i64_w, i32_w]
    rfl
  refine done_ (by kernel_rfl) ?_
  go_wp2
  go_ret
  exact ⟨rfl, BW.out⟩
set_option maxHeartbeats 8000000 in
set_option maxRecDepth 100000 in
theorem up2_fn (k : Nat) : LineFn 89 (up2F k) := by
  intro g A c xs start i v w hb hr h
  have HR := Aside0.mk hr
  have HB := Aside0.mk hb
  have H := Aside0.mk h
  clear hb hr h
  go_enter Try.func89, Try.ntmps89
  have h := H.out
  clear H
  obtain ⟨a, ha, h⟩ := Option.bind_eq_some_iff.mp h
  obtain ⟨e, he, h⟩ := Option.bind_eq_some_iff.mp h
  obtain rfl := Option.some.inj h
  have HA := Aside0.mk ha
  clear ha
  have HE := Aside0.mk he
  clear he
  clear h
  go_wp2
  have BW := Aside0.mk (below_drew1 (Below.refl w.heap.size w))
  have HB' := Aside0.mk (blk_drew HB.out)
  clear HB
  have HB := HB'
  clear HB'
  have HR' := Aside0.mk (Kd.C_drew HR.out)
  clear HR
  have HR := HR'
  clear HR'
  refine start_ (n := 12) (S := fun w' => w'.heap[g]? = some (.cells #[.slice A xs.length c, .int .i64 start] 97 (0, 0))) (ds := []) #[false, false, false, false, false, false, false, false, false, false, false, false] (by kernel_rfl) rfl rfl HB.out (fun hHeld0 => ?_)
  generalize hw0 : w.drew = w0 at *
  clear hw0
  have hHeld := Aside0.mk hHeld0
  clear hHeld0
  refine take_ (i := 0) (N := some 4) (v := .agg #[.slice A xs.length c, .int .i64 start]) (a' := ?_) #[true, false, false, false, false, false, false, false, false, false, false, false] rfl rfl (by kernel_rfl) (fun _ _ _ h => h) (load_yields (by rfl) 97 (.tmp 1) rfl rfl (fun _ h => h) Try.underlying97 rfl) hHeld.out ?_ ?_
  rotate_left
  · simp only [Act.put, List.setIfInBounds_toArray, List.set_cons_zero, List.set_cons_succ, i64_w, i32_w]
    rfl
  refine take_ (i := 4) (N := some 8) (v := .agg #[.slice A xs.length c, .int .i64 start]) (a' := ?_) #[true, false, false, false, true, false, false, false, false, false, false, false] rfl rfl (by kernel_rfl) (fun _ _ _ h => h) (load_yields (by rfl) 97 (.tmp 1) rfl rfl (fun _ h => h) Try.underlying97 rfl) hHeld.out ?_ ?_
  rotate_left
  · simp only [Act.put, List.setIfInBounds_toArray, List.set_cons_zero, List.set_cons_succ, i64_w, i32_w]
    rfl
  refine pure_ (i := 1) (N := some 5) (v := ?_) (a' := ?_) #[true, true, false, false, true, false, false, false, false, false, false, false] rfl rfl (by kernel_rfl) (fun _ _ _ h => h) (Or.inl ⟨by rfl, ?_⟩) ?_ ?_
  rotate_left
  · intro w'
    go_simp
    with_reducible rfl
  rotate_left
  · simp only [Act.put, List.setIfInBounds_toArray, List.set_cons_zero, List.set_cons_succ, i64_w, i32_w]
    rfl
  refine pure_ (i := 2) (N := some 6) (v := ?_) (a' := ?_) #[true, true, true, false, true, false, false, false, false, false, false, false] rfl rfl (by kernel_rfl) (fun _ _ _ h => h) (Or.inl ⟨by rfl, ?_⟩) ?_ ?_
  rotate_left
  · intro w'
    go_simp
    with_reducible rfl
  rotate_left
  · simp only [Act.put, List.setIfInBounds_toArray, List.set_cons_zero, List.set_cons_succ, i64_w, i32_w]
    rfl
  refine pure_ (i := 5) (N := some 9) (v := ?_) (a' := ?_) #[true, true, true, false, true, true, false, false, false, false, false, false] rfl rfl (by kernel_rfl) (fun _ _ _ h => h) (Or.inl ⟨by rfl, ?_⟩) ?_ ?_
  rotate_left
  · intro w'
    go_simp
    with_reducible rfl
  rotate_left
  · simp only [Act.put, List.setIfInBounds_toArray, List.set_cons_zero, List.set_cons_succ, i64_w, i32_w]
    rfl
  refine pure_ (i := 6) (N := some 10) (v := ?_) (a' := ?_) #[true, true, true, false, true, true, true, false, false, false, false, false] rfl rfl (by kernel_rfl) (fun _ _ _ h => h) (Or.inl ⟨by rfl, ?_⟩) ?_ ?_
  rotate_left
  · intro w'
    go_simp
    with_reducible rfl
  rotate_left
  · simp only [Act.put, List.setIfInBounds_toArray, List.set_cons_zero, List.set_cons_succ, i64_w, i32_w]
    rfl
  refine one_ (i := 3) (N := some 7) #[true, true, true, true, true, true, true, false, false, false, false, false] rfl rfl (by kernel_rfl) (by decide) (fun K hK => ?_)
  refine goes_ Try.func85 (by kernel_rfl) rfl #[.agg #[.slice A xs.length c, .int .i64 start], .int .i64 (wrap64 (i - 1))] (by rfl) rfl rfl (by simp only [List.map_toArray, List.map_cons, List.map_nil]; rfl) ?_
  refine (at_atF HR.out HA.out).mono ?_
  rintro _ w1 ⟨rfl, b⟩
  refine ⟨_, rfl, ?_⟩
  have HB' := Aside0.mk (blk_below HB.out b); clear HB; have HB := HB'; clear HB'
  have HR' := Aside0.mk (Kd.C_below HR.out b); clear HR; have HR := HR'; clear HR'
  have BW' := Aside0.mk (BW.out.trans (b.mono BW.out.size)); clear BW; have BW := BW'; clear BW'
  clear b
  refine hK.out _ _ HB.out (fun hHeld => ?_)
  clear hK K
  refine norm_ (a' := ?_) ?_ ?_
  rotate_left
  · show Act.put _ (some 7) _ = _
    simp only [Act.put, List.setIfInBounds_toArray, List.set_cons_zero, List.set_cons_succ, i64_w, i32_w]
    rfl
  refine one_ (i := 7) (N := some 11) #[true, true, true, true, true, true, true, true, false, false, false, false] rfl rfl (by kernel_rfl) (by decide) (fun K hK => ?_)
  refine goes_ Try.func85 (by kernel_rfl) rfl #[.agg #[.slice A xs.length c, .int .i64 start], .int .i64 (wrap64 (i + 1))] (by rfl) rfl rfl (by simp only [List.map_toArray, List.map_cons, List.map_nil]; rfl) ?_
  refine (at_atF HR.out HE.out).mono ?_
  rintro _ w2 ⟨rfl, b⟩
  refine ⟨_, rfl, ?_⟩
  have HB' := Aside0.mk (blk_below HB.out b); clear HB; have HB := HB'; clear HB'
  have HR' := Aside0.mk (Kd.C_below HR.out b); clear HR; have HR := HR'; clear HR'
  have BW' := Aside0.mk (BW.out.trans (b.mono BW.out.size)); clear BW; have BW := BW'; clear BW'
  clear b
  refine hK.out _ _ HB.out (fun hHeld => ?_)
  clear hK K
  refine norm_ (a' := ?_) ?_ ?_
  rotate_left
  · show Act.put _ (some 11) _ = _
    simp only [Act.put, List.setIfInBounds_toArray, List.set_cons_zero, List.set_cons_succ, i64_w, i32_w]
    rfl
  refine pure_ (i := 8) (N := some 12) (v := ?_) (a' := ?_) #[true, true, true, true, true, true, true, true, true, false, false, false] rfl rfl (by kernel_rfl) (fun _ _ _ h => h) (Or.inl ⟨by rfl, ?_⟩) ?_ ?_
  rotate_left
  · intro w'
    go_simp
    with_reducible rfl
  rotate_left
  · simp only [Act.put, List.setIfInBounds_toArray, List.set_cons_zero, List.set_cons_succ, i64_w, i32_w]
    rfl
  refine pure_ (i := 9) (N := some 13) (v := ?_) (a' := ?_) #[true, true, true, true, true, true, true, true, true, true, false, false] rfl rfl (by kernel_rfl) (fun _ _ _ h => h) (Or.inl ⟨by rfl, ?_⟩) ?_ ?_
  rotate_left
  · intro w'
    go_simp
    with_reducible rfl
  rotate_left
  · simp only [Act.put, List.setIfInBounds_toArray, List.set_cons_zero, List.set_cons_succ, i64_w, i32_w]
    rfl
  refine pure_ (i := 10) (N := some 14) (v := ?_) (a' := ?_) #[true, true, true, true, true, true, true, true, true, true, true, false] rfl rfl (by kernel_rfl) (fun _ _ _ h => h) (Or.inl ⟨by rfl, ?_⟩) ?_ ?_
  rotate_left
  · intro w'
    go_simp
    with_reducible rfl
  rotate_left
  · simp only [Act.put, List.setIfInBounds_toArray, List.set_cons_zero, List.set_cons_succ, i64_w, i32_w]
    rfl
  refine pure_ (i := 11) (N := some 3) (v := ?_) (a' := ?_) #[true, true, true, true, true, true, true, true, true, true, true, true] rfl rfl (by kernel_rfl) (fun _ _ _ h => h) (Or.inl ⟨by rfl, ?_⟩) ?_ ?_
  rotate_left
  · intro w'
    go_simp
    with_reducible rfl
  rotate_left
  · simp only [Act.put, List.setIfInBounds_toArray, List.set_cons_zero, List.set_cons_succ, i64_w, i32_w]
    rfl
  refine done_ (by kernel_rfl) ?_
  go_wp2
  go_ret
  exact ⟨rfl, BW.out⟩
set_option maxHeartbeats 8000000 in
set_option maxRecDepth 100000 in
theorem pr3_fn (k : Nat) : LineFn 87 (pr3F k) := by
  intro g A c xs start i v w hb hr h
  have HR := Aside0.mk hr
  have HB := Aside0.mk hb
  have H := Aside0.mk h
  clear hb hr h
  go_enter Try.func87, Try.ntmps87
  have h := H.out
  clear H
  obtain ⟨a, ha, h⟩ := Option.bind_eq_some_iff.mp h
  obtain ⟨e, he, h⟩ := Option.bind_eq_some_iff.mp h
  obtain ⟨d, hd, h⟩ := Option.bind_eq_some_iff.mp h
  obtain ⟨f, hf, h⟩ := Option.bind_eq_some_iff.mp h
  obtain rfl := Option.some.inj h
  have HA := Aside0.mk ha
  clear ha
  have HE := Aside0.mk he
  clear he
  have HD := Aside0.mk hd
  clear hd
  have HF := Aside0.mk hf
  clear hf
  clear h
  go_wp2
  have BW := Aside0.mk (below_drew1 (Below.refl w.heap.size w))
  have HB' := Aside0.mk (blk_drew HB.out)
  clear HB
  have HB := HB'
  clear HB'
  have HR' := Aside0.mk (Kd.C_drew HR.out)
  clear HR
  have HR := HR'
  clear HR'
  refine start_ (n := 23) (S := fun w' => w'.heap[g]? = some (.cells #[.slice A xs.length c, .int .i64 start] 97 (0, 0))) (ds := []) #[false, false, false, false, false, false, false, false, false, false, false, false, false, false, false, false, false, false, false, false, false, false, false] (by kernel_rfl) rfl rfl HB.out (fun hHeld0 => ?_)
  generalize hw0 : w.drew = w0 at *
  clear hw0
  have hHeld := Aside0.mk hHeld0
  clear hHeld0
  refine take_ (i := 0) (N := some 4) (v := .agg #[.slice A xs.length c, .int .i64 start]) (a' := ?_) #[true, false, false, false, false, false, false, false, false, false, false, false, false, false, false, false, false, false, false, false, false, false, false] rfl rfl (by kernel_rfl) (fun _ _ _ h => h) (load_yields (by rfl) 97 (.tmp 1) rfl rfl (fun _ h => h) Try.underlying97 rfl) hHeld.out ?_ ?_
  rotate_left
  · simp only [Act.put, List.setIfInBounds_toArray, List.set_cons_zero, List.set_cons_succ, i64_w, i32_w]
    rfl
  refine take_ (i := 4) (N := some 8) (v := .agg #[.slice A xs.length c, .int .i64 start]) (a' := ?_) #[true, false, false, false, true, false, false, false, false, false, false, false, false, false, false, false, false, false, false, false, false, false, false] rfl rfl (by kernel_rfl) (fun _ _ _ h => h) (load_yields (by rfl) 97 (.tmp 1) rfl rfl (fun _ h => h) Try.underlying97 rfl) hHeld.out ?_ ?_
  rotate_left
  · simp only [Act.put, List.setIfInBounds_toArray, List.set_cons_zero, List.set_cons_succ, i64_w, i32_w]
    rfl
  refine take_ (i := 10) (N := some 14) (v := .agg #[.slice A xs.length c, .int .i64 start]) (a' := ?_) #[true, false, false, false, true, false, false, false, false, false, true, false, false, false, false, false, false, false, false, false, false, false, false] rfl rfl (by kernel_rfl) (fun _ _ _ h => h) (load_yields (by rfl) 97 (.tmp 1) rfl rfl (fun _ h => h) Try.underlying97 rfl) hHeld.out ?_ ?_
  rotate_left
  · simp only [Act.put, List.setIfInBounds_toArray, List.set_cons_zero, List.set_cons_succ, i64_w, i32_w]
    rfl
  refine take_ (i := 14) (N := some 18) (v := .agg #[.slice A xs.length c, .int .i64 start]) (a' := ?_) #[true, false, false, false, true, false, false, false, false, false, true, false, false, false, true, false, false, false, false, false, false, false, false] rfl rfl (by kernel_rfl) (fun _ _ _ h => h) (load_yields (by rfl) 97 (.tmp 1) rfl rfl (fun _ h => h) Try.underlying97 rfl) hHeld.out ?_ ?_
  rotate_left
  · simp only [Act.put, List.setIfInBounds_toArray, List.set_cons_zero, List.set_cons_succ, i64_w, i32_w]
    rfl
  refine pure_ (i := 1) (N := some 5) (v := ?_) (a' := ?_) #[true, true, false, false, true, false, false, false, false, false, true, false, false, false, true, false, false, false, false, false, false, false, false] rfl rfl (by kernel_rfl) (fun _ _ _ h => h) (Or.inl ⟨by rfl, ?_⟩) ?_ ?_
  rotate_left
  · intro w'
    go_simp
    with_reducible rfl
  rotate_left
  · simp only [Act.put, List.setIfInBounds_toArray, List.set_cons_zero, List.set_cons_succ, i64_w, i32_w]
    rfl
  refine pure_ (i := 2) (N := some 6) (v := ?_) (a' := ?_) #[true, true, true, false, true, false, false, false, false, false, true, false, false, false, true, false, false, false, false, false, false, false, false] rfl rfl (by kernel_rfl) (fun _ _ _ h => h) (Or.inl ⟨by rfl, ?_⟩) ?_ ?_
  rotate_left
  · intro w'
    go_simp
    with_reducible rfl
  rotate_left
  · simp only [Act.put, List.setIfInBounds_toArray, List.set_cons_zero, List.set_cons_succ, i64_w, i32_w]
    rfl
  refine pure_ (i := 5) (N := some 9) (v := ?_) (a' := ?_) #[true, true, true, false, true, true, false, false, false, false, true, false, false, false, true, false, false, false, false, false, false, false, false] rfl rfl (by kernel_rfl) (fun _ _ _ h => h) (Or.inl ⟨by rfl, ?_⟩) ?_ ?_
  rotate_left
  · intro w'
    go_simp
    with_reducible rfl
  rotate_left
  · simp only [Act.put, List.setIfInBounds_toArray, List.set_cons_zero, List.set_cons_succ, i64_w, i32_w]
    rfl
  refine pure_ (i := 6) (N := some 10) (v := ?_) (a' := ?_) #[true, true, true, false, true, true, true, false, false, false, true, false, false, false, true, false, false, false, false, false, false, false, false] rfl rfl (by kernel_rfl) (fun _ _ _ h => h) (Or.inl ⟨by rfl, ?_⟩) ?_ ?_
  rotate_left
  · intro w'
    go_simp
    with_reducible rfl
  rotate_left
  · simp only [Act.put, List.setIfInBounds_toArray, List.set_cons_zero, List.set_cons_succ, i64_w, i32_w]
    rfl
  refine pure_ (i := 11) (N := some 15) (v := ?_) (a' := ?_) #[true, true, true, false, true, true, true, false, false, false, true, true, false, false, true, false, false, false, false, false, false, false, false] rfl rfl (by kernel_rfl) (fun _ _ _ h => h) (Or.inl ⟨by rfl, ?_⟩) ?_ ?_
  rotate_left
  · intro w'
    go_simp
    with_reducible rfl
  rotate_left
  · simp only [Act.put, List.setIfInBounds_toArray, List.set_cons_zero, List.set_cons_succ, i64_w, i32_w]
    rfl
  refine pure_ (i := 12) (N := some 16) (v := ?_) (a' := ?_) #[true, true, true, false, true, true, true, false, false, false, true, true, true, false, true, false, false, false, false, false, false, false, false] rfl rfl (by kernel_rfl) (fun _ _ _ h => h) (Or.inl ⟨by rfl, ?_⟩) ?_ ?_
  rotate_left
  · intro w'
    go_simp
    with_reducible rfl
  rotate_left
  · simp only [Act.put, List.setIfInBounds_toArray, List.set_cons_zero, List.set_cons_succ, i64_w, i32_w]
    rfl
  refine pure_ (i := 15) (N := some 19) (v := ?_) (a' := ?_) #[true, true, true, false, true, true, true, false, false, false, true, true, true, false, true, true, false, false, false, false, false, false, false] rfl rfl (by kernel_rfl) (fun _ _ _ h => h) (Or.inl ⟨by rfl, ?_⟩) ?_ ?_
  rotate_left
  · intro w'
    go_simp
    with_reducible rfl
  rotate_left
  · simp only [Act.put, List.setIfInBounds_toArray, List.set_cons_zero, List.set_cons_succ, i64_w, i32_w]
    rfl
  refine pure_ (i := 16) (N := some 20) (v := ?_) (a' := ?_) #[true, true, true, false, true, true, true, false, false, false, true, true, true, false, true, true, true, false, false, false, false, false, false] rfl rfl (by kernel_rfl) (fun _ _ _ h => h) (Or.inl ⟨by rfl, ?_⟩) ?_ ?_
  rotate_left
  · intro w'
    go_simp
    with_reducible rfl
  rotate_left
  · simp only [Act.put, List.setIfInBounds_toArray, List.set_cons_zero, List.set_cons_succ, i64_w, i32_w]
    rfl
  refine one_ (i := 3) (N := some 7) #[true, true, true, true, true, true, true, false, false, false, true, true, true, false, true, true, true, false, false, false, false, false, false] rfl rfl (by kernel_rfl) (by decide) (fun K hK => ?_)
  refine goes_ Try.func85 (by kernel_rfl) rfl #[.agg #[.slice A xs.length c, .int .i64 start], .int .i64 (wrap64 (i - 1))] (by rfl) rfl rfl (by simp only [List.map_toArray, List.map_cons, List.map_nil]; rfl) ?_
  refine (at_atF HR.out HA.out).mono ?_
  rintro _ w1 ⟨rfl, b⟩
  refine ⟨_, rfl, ?_⟩
  have HB' := Aside0.mk (blk_below HB.out b); clear HB; have HB := HB'; clear HB'
  have HR' := Aside0.mk (Kd.C_below HR.out b); clear HR; have HR := HR'; clear HR'
  have BW' := Aside0.mk (BW.out.trans (b.mono BW.out.size)); clear BW; have BW := BW'; clear BW'
  clear b
  refine hK.out _ _ HB.out (fun hHeld => ?_)
  clear hK K
  refine norm_ (a' := ?_) ?_ ?_
  rotate_left
  · show Act.put _ (some 7) _ = _
    simp only [Act.put, List.setIfInBounds_toArray, List.set_cons_zero, List.set_cons_succ, i64_w, i32_w]
    rfl
  refine one_ (i := 7) (N := some 11) #[true, true, true, true, true, true, true, true, false, false, true, true, true, false, true, true, true, false, false, false, false, false, false] rfl rfl (by kernel_rfl) (by decide) (fun K hK => ?_)
  refine goes_ Try.func85 (by kernel_rfl) rfl #[.agg #[.slice A xs.length c, .int .i64 start], .int .i64 (wrap64 (i + 1))] (by rfl) rfl rfl (by simp only [List.map_toArray, List.map_cons, List.map_nil]; rfl) ?_
  refine (at_atF HR.out HE.out).mono ?_
  rintro _ w2 ⟨rfl, b⟩
  refine ⟨_, rfl, ?_⟩
  have HB' := Aside0.mk (blk_below HB.out b); clear HB; have HB := HB'; clear HB'
  have HR' := Aside0.mk (Kd.C_below HR.out b); clear HR; have HR := HR'; clear HR'
  have BW' := Aside0.mk (BW.out.trans (b.mono BW.out.size)); clear BW; have BW := BW'; clear BW'
  clear b
  refine hK.out _ _ HB.out (fun hHeld => ?_)
  clear hK K
  refine norm_ (a' := ?_) ?_ ?_
  rotate_left
  · show Act.put _ (some 11) _ = _
    simp only [Act.put, List.setIfInBounds_toArray, List.set_cons_zero, List.set_cons_succ, i64_w, i32_w]
    rfl
  refine pure_ (i := 8) (N := some 12) (v := ?_) (a' := ?_) #[true, true, true, true, true, true, true, true, true, false, true, true, true, false, true, true, true, false, false, false, false, false, false] rfl rfl (by kernel_rfl) (fun _ _ _ h => h) (Or.inl ⟨by rfl, ?_⟩) ?_ ?_
  rotate_left
  · intro w'
    go_simp
    with_reducible rfl
  rotate_left
  · simp only [Act.put, List.setIfInBounds_toArray, List.set_cons_zero, List.set_cons_succ, i64_w, i32_w]
    rfl
  refine pure_ (i := 9) (N := some 13) (v := ?_) (a' := ?_) #[true, true, true, true, true, true, true, true, true, true, true, true, true, false, true, true, true, false, false, false, false, false, false] rfl rfl (by kernel_rfl) (fun _ _ _ h => h) (Or.inl ⟨by rfl, ?_⟩) ?_ ?_
  rotate_left
  · intro w'
    go_simp
    with_reducible rfl
  rotate_left
  · simp only [Act.put, List.setIfInBounds_toArray, List.set_cons_zero, List.set_cons_succ, i64_w, i32_w]
    rfl
  refine one_ (i := 13) (N := some 17) #[true, true, true, true, true, true, true, true, true, true, true, true, true, true, true, true, true, false, false, false, false, false, false] rfl rfl (by kernel_rfl) (by decide) (fun K hK => ?_)
  refine goes_ Try.func85 (by kernel_rfl) rfl #[.agg #[.slice A xs.length c, .int .i64 start], .int .i64 (wrap64 (i - 3))] (by rfl) rfl rfl (by simp only [List.map_toArray, List.map_cons, List.map_nil]; rfl) ?_
  refine (at_atF HR.out HD.out).mono ?_
  rintro _ w3 ⟨rfl, b⟩
  refine ⟨_, rfl, ?_⟩
  have HB' := Aside0.mk (blk_below HB.out b); clear HB; have HB := HB'; clear HB'
  have HR' := Aside0.mk (Kd.C_below HR.out b); clear HR; have HR := HR'; clear HR'
  have BW' := Aside0.mk (BW.out.trans (b.mono BW.out.size)); clear BW; have BW := BW'; clear BW'
  clear b
  refine hK.out _ _ HB.out (fun hHeld => ?_)
  clear hK K
  refine norm_ (a' := ?_) ?_ ?_
  rotate_left
  · show Act.put _ (some 17) _ = _
    simp only [Act.put, List.setIfInBounds_toArray, List.set_cons_zero, List.set_cons_succ, i64_w, i32_w]
    rfl
  refine one_ (i := 17) (N := some 21) #[true, true, true, true, true, true, true, true, true, true, true, true, true, true, true, true, true, true, false, false, false, false, false] rfl rfl (by kernel_rfl) (by decide) (fun K hK => ?_)
  refine goes_ Try.func85 (by kernel_rfl) rfl #[.agg #[.slice A xs.length c, .int .i64 start], .int .i64 (wrap64 (i + 3))] (by rfl) rfl rfl (by simp only [List.map_toArray, List.map_cons, List.map_nil]; rfl) ?_
  refine (at_atF HR.out HF.out).mono ?_
  rintro _ w4 ⟨rfl, b⟩
  refine ⟨_, rfl, ?_⟩
  have HB' := Aside0.mk (blk_below HB.out b); clear HB; have HB := HB'; clear HB'
  have HR' := Aside0.mk (Kd.C_below HR.out b); clear HR; have HR := HR'; clear HR'
  have BW' := Aside0.mk (BW.out.trans (b.mono BW.out.size)); clear BW; have BW := BW'; clear BW'
  clear b
  refine hK.out _ _ HB.out (fun hHeld => ?_)
  clear hK K
  refine norm_ (a' := ?_) ?_ ?_
  rotate_left
  · show Act.put _ (some 21) _ = _
    simp only [Act.put, List.setIfInBounds_toArray, List.set_cons_zero, List.set_cons_succ, i64_w, i32_w]
    rfl
  refine pure_ (i := 18) (N := some 22) (v := ?_) (a' := ?_) #[true, true, true, true, true, true, true, true, true, true, true, true, true, true, true, true, true, true, true, false, false, false, false] rfl rfl (by kernel_rfl) (fun _ _ _ h => h) (Or.inl ⟨by rfl, ?_⟩) ?_ ?_
  rotate_left
  · intro w'
    go_simp
    with_reducible rfl
  rotate_left
  · simp only [Act.put, List.setIfInBounds_toArray, List.set_cons_zero, List.set_cons_succ, i64_w, i32_w]
    rfl
  refine pure_ (i := 19) (N := some 23) (v := ?_) (a' := ?_) #[true, true, true, true, true, true, true, true, true, true, true, true, true, true, true, true, true, true, true, true, false, false, false] rfl rfl (by kernel_rfl) (fun _ _ _ h => h) (Or.inl ⟨by rfl, ?_⟩) ?_ ?_
  rotate_left
  · intro w'
    go_simp
    with_reducible rfl
  rotate_left
  · simp only [Act.put, List.setIfInBounds_toArray, List.set_cons_zero, List.set_cons_succ, i64_w, i32_w]
    rfl
  refine pure_ (i := 20) (N := some 24) (v := ?_) (a' := ?_) #[true, true, true, true, true, true, true, true, true, true, true, true, true, true, true, true, true, true, true, true, true, false, false] rfl rfl (by kernel_rfl) (fun _ _ _ h => h) (Or.inl ⟨by rfl, ?_⟩) ?_ ?_
  rotate_left
  · intro w'
    go_simp
    with_reducible rfl
  rotate_left
  · simp only [Act.put, List.setIfInBounds_toArray, List.set_cons_zero, List.set_cons_succ, i64_w, i32_w]
    rfl
  refine pure_ (i := 21) (N := some 25) (v := ?_) (a' := ?_) #[true, true, true, true, true, true, true, true, true, true, true, true, true, true, true, true, true, true, true, true, true, true, false] rfl rfl (by kernel_rfl) (fun _ _ _ h => h) (Or.inl ⟨by rfl, ?_⟩) ?_ ?_
  rotate_left
  · intro w'
    go_simp
    with_reducible rfl
  rotate_left
  · simp only [Act.put, List.setIfInBounds_toArray, List.set_cons_zero, List.set_cons_succ, i64_w, i32_w]
    rfl
  refine pure_ (i := 22) (N := some 3) (v := ?_) (a' := ?_) #[true, true, true, true, true, true, true, true, true, true, true, true, true, true, true, true, true, true, true, true, true, true, true] rfl rfl (by kernel_rfl) (fun _ _ _ h => h) (Or.inl ⟨by rfl, ?_⟩) ?_ ?_
  rotate_left
  · intro w'
    go_simp
    with_reducible rfl
  rotate_left
  · simp only [Act.put, List.setIfInBounds_toArray, List.set_cons_zero, List.set_cons_succ, i64_w, i32_w]
    rfl
  refine done_ (by kernel_rfl) ?_
  go_wp2
  go_ret
  exact ⟨rfl, BW.out⟩
end Go.Proofs.Ytcnpekpgghppnaa.Q

/- A step of lifting. Printed by wip/tools of this session. -/
namespace Go.Proofs.Ytcnpekpgghppnaa.Q
open Go.RowKit Go.Proofs.YtcnpekpgghppnaaW.PrintWords Go.Proofs.YtcnpekpgghppnaaW.PrintLast Go.Proofs.YtcnpekpgghppnaaW.PrintMore
set_option linter.unusedVariables false
set_option linter.unusedSimpArgs false

section
variable {P : Program} {ops : Array Oper} {Q : Exit → Act → World → Prop}
/-- A call of a function value, in a drawn region. -/
theorem goesV_ {oi : Oper} {N : Option Tmp} {a : Act} {w : World} {K : Act → World → Prop} {f : FuncId} {fn : Func} {ao : Array Operand} {ts : Array TypeId} {x : Operand} {cap : Array Value} (hf : P.funcs[f]? = some fn) (hname : (fn.name == "runtime.NumGoroutine") = false) (hb : fn.body.isSome = true) (args : Array Value)
    (hw : Region.wanted oi (yielded ops a.tmps) = true) (hN : oi.dst = N) (hop : oi.op = .call { callee := .value x, args := ao, argTypes := ts }) (hx : a.eval x = .func (.func f) #[] cap) (hargs : ao.map a.eval ++ cap = args)
    (h : Calls P f args w fun e w' => ∃ v, e = .returned v ∧ K (a.put N v) w') : if Region.wanted oi (yielded ops a.tmps) = true then Oper.wp P oi a w K Q else K (a.put N undef) w := by
  refine call_ f args hw hN ?_ h
  have he := enters_ hf hname hb args w
  unfold execOp
  subst hargs
  simp [hop, resolve, Deferred.ofValue, invoke, hx, he]
end
/-- Adds sg times what is told to each number of a parity, from the i-th on. -/
def stepF (fq : List Int → Int → Option Int) (start par sg : Int) : Nat → Int → List Int → Option (List Int)
  | 0, _, _ => none
  | k + 1, i, xs => if i < (xs.length : Int) then (if 0 ≤ i then (if Int.tmod (wrap64 (start + i)) 2 = par then (fq xs i).bind fun v => stepF fq start par sg k (wrap64 (i + 1)) (xs.set i.toNat (wrap64 (rd xs i + wrap64 (sg * v)))) else stepF fq start par sg k (wrap64 (i + 1)) xs) else none) else some xs
theorem Bks.tl {n : Nat} {w0 W : World} {x : Nat × Nat × Array Value} {l : List (Nat × Nat × Array Value)} (h : Bks n w0 W (x :: l)) : Bks n w0 W l :=
  ⟨fun i b hi => h.blk (i + 1) b (by simpa using hi), fun i j b c hij hi hj => h.ne (i + 1) (j + 1) b c (by omega) (by simpa using hi) (by simpa using hj), fun i b hi => h.ge (i + 1) b (by simpa using hi), h.below⟩
set_option maxHeartbeats 8000000 in
set_option maxRecDepth 100000 in
theorem line_step.calls (F : Nat) (fn : Func) (hf : Try.prog.funcs[F]? = some fn) (hname : (fn.name == "runtime.NumGoroutine") = false) (hbody : fn.body.isSome = true) (fq : List Int → Int → Option Int) (hF : LineFn F fq) (k : Nat) (g a c n : Nat) (xs ys : List Int) (start par sg : Int) (w0 : World) (base : Nat) (ok : Nat → Prop) (w : World)
    (hr : Kd.R (Kd.int .i64) 3 w base ok (.slice (some ⟨a, 0, none⟩) n c) xs) (hb : w.heap[g]? = some (.cells #[.slice (some ⟨a, 0, none⟩) n c, .int .i64 start] 97 (0, 0))) (hB : Below base w0 w) (h : stepF fq start par sg k 0 xs = some ys) :
    Calls Try.prog 77 #[.agg #[.slice (some ⟨a, 0, none⟩) n c, .int .i64 start], .int .i64 par, .int .i64 sg, .func (.func F) #[] #[.pointer (some ⟨g, 0, none⟩)]] w fun e w' => e = .returned (.tuple #[]) ∧ Kd.R (Kd.int .i64) 3 w' base ok (.slice (some ⟨a, 0, none⟩) n c) ys ∧ Kept w w' (fun k => k = a) ∧ Below base w0 w' := by
  have hn : n = xs.length := (Kd.R_reads' hr).1
  have ha : a < w.heap.size := Kd.R_lt hr a rfl
  have hga : g ≠ a := fun e => Kd.R_ne hr hb (by decide) (by rw [e]; rfl)
  have hnm : n ≤ 9223372036854775807 := by rw [hn]; exact (Kd.R_reads' hr).2.2.2.1
  have hbase : base ≤ a := Kd.R_base hr a rfl
  have H := Aside0.mk h
  have HL := Aside0.mk hr
  have HG := Aside0.mk hb
  have HN := Aside0.mk hn
  have HA := Aside0.mk (And.intro hga (And.intro ha (And.intro hnm hbase)))
  have HB := Aside0.mk hB
  have HK := Aside0.mk (Kept.refl w (fun k => k = a))
  have HBS := Aside0.mk (show base ≤ w.heap.size by omega)
  clear h hr hb hn ha hga hnm hbase hB
  go_enter Try.func77, Try.ntmps77
  go_wp2_with (first
    | ((with_reducible refine gate_dst (N := 4) rfl ?_); refine box_event ?hg (N := 4) ?hd (cs := #[.slice (some ⟨a, 0, none⟩) n c, .int .i64 start]) (t := 97) ?hr ?_; (case hd => rfl); (case hg => rfl); (case hr => first | (go_simp; done) | (go_simp; rfl)); intro g4 hg W4 hbox hb; have B4 := Aside0.mk hbox; have HGE := Aside0.mk (show w.heap.size ≤ g4 by rw [hg]; exact Nat.le_refl _); have HL' := Aside0.mk (Kd.R_below HL.out hb); have HG' := Aside0.mk (blk_below HG.out hb); have HK' := Aside0.mk (HK.out.below hb); have HB' := Aside0.mk (HB.out.trans (hb.mono (Nat.le_trans HBS.out HK.out.1))); clear HL HG HK HB; have HL := HL'; have HG := HG'; have HK := HK'; have HB := HB'; clear HL' HG' HK' HB'; clear hb hbox hg; have f0 : W4.cell? ⟨g4, 0, none⟩ = some (.slice (some ⟨a, 0, none⟩) n c) := (blk_cell B4.out 0).trans rfl))
  go_loopg [12] k (fun kq v12 w' => ∃ (i : Int) (x : List Int), v12 = .int .i64 i ∧ Aside0 (n = x.length) ∧ Aside0 (stepF fq start par sg kq i x = some ys) ∧ Aside0 (Kd.R (Kd.int .i64) 3 w' base ok (.slice (some ⟨a, 0, none⟩) n c) x) ∧ Aside0 (w'.heap[g]? = some (.cells #[.slice (some ⟨a, 0, none⟩) n c, .int .i64 start] 97 (0, 0))) ∧ Aside0 (w'.heap[g4]? = some (.cells #[.slice (some ⟨a, 0, none⟩) n c, .int .i64 start] 97 (0, 0))) ∧ Aside0 (Kept w w' (fun k => k = a)) ∧ Aside0 (Below base w0 w'))
  case atStart => exact ⟨0, xs, rfl, HN, H, HL, HG, B4, HK, HB⟩
  case round =>
  clear H HL HG B4 HK HB HN f0
  obtain ⟨i, x, rfl, HN, HX, HL, HG, B4, HK, HB⟩ := hrel
  cases gk with
  | zero => exact absurd HX.out (by simp [stepF])
  | succ kk =>
  have hs := HX.out
  clear HX
  rw [stepF.eq_2, ← HN.out] at hs
  by_cases hi : i < (n : Int)
  rotate_left
  · rw [if_neg hi] at hs
    have hb0 : decide (i < (n : Int)) = false := decide_eq_false hi
    obtain rfl := Option.some.inj hs
    clear hs hi
    go_wp2
    go_end0
    exact ⟨rfl, HL.out, HK.out, HB.out⟩
  rw [if_pos hi] at hs
  by_cases hi0 : 0 ≤ i
  rotate_left
  · rw [if_neg hi0] at hs
    cases hs
  rw [if_pos hi0] at hs
  have hb0 : decide (i < (n : Int)) = true := decide_eq_true hi
  have f0 : wr.cell? ⟨g4, 0, none⟩ = some (.slice (some ⟨a, 0, none⟩) n c) := (blk_cell B4.out 0).trans rfl
  have f1 : wr.cell? ⟨g4, 1, none⟩ = some (.int .i64 start) := (blk_cell B4.out 1).trans rfl
  by_cases hp : Int.tmod (wrap64 (start + i)) 2 = par
  rotate_left
  · rw [if_neg hp] at hs
    have HX := Aside0.mk hs
    have hb1 : (Int.tmod (wrap64 (start + i)) 2 == par) = false := beq_eq_false_iff_ne.mpr hp
    clear hs hi hi0 hp
    go_wp2
    go_roundg kk
    case measure => omega
    case rel => exact ⟨_, x, rfl, HN, HX, HL, HG, B4, HK, HB⟩
  · rw [if_pos hp] at hs
    have hb1 : (Int.tmod (wrap64 (start + i)) 2 == par) = true := beq_iff_eq.mpr hp
    obtain ⟨v, hv, hs⟩ := Option.bind_eq_some_iff.mp hs
    have HX := Aside0.mk hs
    have HV := Aside0.mk hv
    have p0 : (0 ≤ i) = True := eq_true hi0
    have p1 : (i < (n : Int)) = True := eq_true hi
    have hin : i < n := hi
    clear hs hv hp
    go_wp2
    have b := below_drew1 (Below.refl wr.heap.size wr)
    have HL' := Aside0.mk (Kd.R_below HL.out b)
    have HG' := Aside0.mk (blk_below HG.out b)
    have B4' := Aside0.mk (blk_below B4.out b)
    have HK' := Aside0.mk (HK.out.below b)
    have HB' := Aside0.mk (HB.out.trans (b.mono (Nat.le_trans HBS.out HK.out.1)))
    clear HL HG B4 HK HB b
    have HL := HL'
    have HG := HG'
    have B4 := B4'
    have HK := HK'
    have HB := HB'
    clear HL' HG' B4' HK' HB'
    have f0 : wr.drew.cell? ⟨g4, 0, none⟩ = some (.slice (some ⟨a, 0, none⟩) n c) := (blk_cell B4.out 0).trans rfl
    have hx : wr.drew.cell? ⟨a, i.toNat, none⟩ = some (.int .i64 (rd x i)) := (Kd.R_celln (0 : Int) HL.out i hi0 hin).1
    refine start_ (n := 13) (S := fun w' => w'.cell? ⟨g4, 0, none⟩ = some (.slice (some ⟨a, 0, none⟩) n c) ∧ w'.cell? ⟨a, i.toNat, none⟩ = some (.int .i64 (rd x i))) (ds := [12]) #[false, false, false, false, false, false, false, false, false, false, false, false, false] (by kernel_rfl) rfl rfl ⟨f0, hx⟩ (fun hHeld0 => ?_)
    generalize hw1 : wr.drew = W1 at *
    clear hw1
    have hHeld := Aside0.mk hHeld0
    clear hHeld0
    refine pure_ (i := 0) (N := some 22) (v := ?_) (a' := ?_) #[true, false, false, false, false, false, false, false, false, false, false, false, false] rfl rfl (by kernel_rfl) (fun _ _ _ h => h) (Or.inl ⟨by rfl, ?_⟩) ?_ ?_
    rotate_left
    · intro w'
      go_simp
      with_reducible rfl
    rotate_left
    · simp only [Act.put, List.setIfInBounds_toArray, List.set_cons_zero, List.set_cons_succ, i64_w, i32_w]
      rfl
    refine take_ (i := 1) (N := some 23) (v := ?_) (a' := ?_) #[true, true, false, false, false, false, false, false, false, false, false, false, false] rfl rfl (by kernel_rfl) (fun _ _ _ h => h) (Or.inl ⟨by rfl, ?_⟩) hHeld.out ?_ ?_
    rotate_left
    · rintro w' ⟨s0, s1⟩
      go_simp
      with_reducible rfl
    rotate_left
    · simp only [Act.put, List.setIfInBounds_toArray, List.set_cons_zero, List.set_cons_succ, i64_w, i32_w]
      rfl
    refine pure_ (i := 2) (N := some 24) (v := ?_) (a' := ?_) #[true, true, true, false, false, false, false, false, false, false, false, false, false] rfl rfl (by kernel_rfl) (fun _ _ _ h => h) (Or.inl ⟨by rfl, ?_⟩) ?_ ?_
    rotate_left
    · intro w'
      go_simp
      with_reducible rfl
    rotate_left
    · simp only [Act.put, List.setIfInBounds_toArray, List.set_cons_zero, List.set_cons_succ, i64_w, i32_w]
      rfl
    refine pure_ (i := 3) (N := some 25) (v := ?_) (a' := ?_) #[true, true, true, true, false, false, false, false, false, false, false, false, false] rfl rfl (by kernel_rfl) (fun _ _ _ h => h) (Or.inl ⟨by rfl, ?_⟩) ?_ ?_
    rotate_left
    · intro w'
      go_simp
      with_reducible rfl
    rotate_left
    · simp only [Act.put, List.setIfInBounds_toArray, List.set_cons_zero, List.set_cons_succ, i64_w, i32_w]
      rfl
    refine take_ (i := 4) (N := some 26) (v := ?_) (a' := ?_) #[true, true, true, true, true, false, false, false, false, false, false, false, false] rfl rfl (by kernel_rfl) (fun _ _ _ h => h) (Or.inl ⟨by rfl, ?_⟩) hHeld.out ?_ ?_
    rotate_left
    · rintro w' ⟨s0, s1⟩
      go_simp
      with_reducible rfl
    rotate_left
    · simp only [Act.put, List.setIfInBounds_toArray, List.set_cons_zero, List.set_cons_succ, i64_w, i32_w]
      rfl
    refine pure_ (i := 5) (N := some 27) (v := ?_) (a' := ?_) #[true, true, true, true, true, true, false, false, false, false, false, false, false] rfl rfl (by kernel_rfl) (fun _ _ _ h => h) (Or.inl ⟨by rfl, ?_⟩) ?_ ?_
    rotate_left
    · intro w'
      go_simp
      with_reducible rfl
    rotate_left
    · simp only [Act.put, List.setIfInBounds_toArray, List.set_cons_zero, List.set_cons_succ, i64_w, i32_w]
      rfl
    refine pure_ (i := 6) (N := some 28) (v := ?_) (a' := ?_) #[true, true, true, true, true, true, true, false, false, false, false, false, false] rfl rfl (by kernel_rfl) (fun _ _ _ h => h) (Or.inl ⟨by rfl, ?_⟩) ?_ ?_
    rotate_left
    · intro w'
      go_simp
      with_reducible rfl
    rotate_left
    · simp only [Act.put, List.setIfInBounds_toArray, List.set_cons_zero, List.set_cons_succ, i64_w, i32_w]
      rfl
    refine pure_ (i := 7) (N := some 29) (v := ?_) (a' := ?_) #[true, true, true, true, true, true, true, true, false, false, false, false, false] rfl rfl (by kernel_rfl) (fun _ _ _ h => h) (Or.inl ⟨by rfl, ?_⟩) ?_ ?_
    rotate_left
    · intro w'
      go_simp
      with_reducible rfl
    rotate_left
    · simp only [Act.put, List.setIfInBounds_toArray, List.set_cons_zero, List.set_cons_succ, i64_w, i32_w]
      rfl
    refine one_ (i := 8) (N := some 30) #[true, true, true, true, true, true, true, true, true, false, false, false, false] rfl rfl (by kernel_rfl) (by decide) (fun K hK => ?_)
    refine goesV_ hf hname hbody #[.int .i64 i, .pointer (some ⟨g, 0, none⟩)] (by rfl) rfl rfl rfl (by simp [Act.eval]) ?_
    refine (hF g (some ⟨a, 0, none⟩) c x start i v _ (by rw [← HN.out]; exact HG.out) (Kd.R_reads' HL.out).2.2 HV.out).mono ?_
    rintro _ W2 ⟨rfl, b⟩
    refine ⟨_, rfl, ?_⟩
    have HL' := Aside0.mk (Kd.R_below HL.out b)
    have HG' := Aside0.mk (blk_below HG.out b)
    have B4' := Aside0.mk (blk_below B4.out b)
    have HK' := Aside0.mk (HK.out.below b)
    have HB' := Aside0.mk (HB.out.trans (b.mono (Nat.le_trans HBS.out HK.out.1)))
    clear HL HG B4 HK HB b
    have HL := HL'
    have HG := HG'
    have B4 := B4'
    have HK := HK'
    have HB := HB'
    clear HL' HG' B4' HK' HB'
    have f0 : W2.cell? ⟨g4, 0, none⟩ = some (.slice (some ⟨a, 0, none⟩) n c) := (blk_cell B4.out 0).trans rfl
    obtain ⟨hx, hz⟩ := Kd.R_celln (0 : Int) HL.out i hi0 hin
    replace hx : W2.cell? ⟨a, i.toNat, none⟩ = some (.int .i64 (rd x i)) := hx
    replace hz : W2.frozen? ⟨a, i.toNat, none⟩ = false := hz
    refine hK.out _ _ ⟨f0, hx⟩ (fun hHeld => ?_)
    clear hK K
    refine norm_ (a' := ?_) ?_ ?_
    rotate_left
    · show Act.put _ (some 30) _ = _
      simp only [Act.put, List.setIfInBounds_toArray, List.set_cons_zero, List.set_cons_succ, i64_w, i32_w]
      rfl
    refine pure_ (i := 9) (N := some 31) (v := ?_) (a' := ?_) #[true, true, true, true, true, true, true, true, true, true, false, false, false] rfl rfl (by kernel_rfl) (fun _ _ _ h => h) (Or.inl ⟨by rfl, ?_⟩) ?_ ?_
    rotate_left
    · intro w'
      go_simp
      with_reducible rfl
    rotate_left
    · simp only [Act.put, List.setIfInBounds_toArray, List.set_cons_zero, List.set_cons_succ, i64_w, i32_w]
      rfl
    refine pure_ (i := 10) (N := some 32) (v := ?_) (a' := ?_) #[true, true, true, true, true, true, true, true, true, true, true, false, false] rfl rfl (by kernel_rfl) (fun _ _ _ h => h) (Or.inl ⟨by rfl, ?_⟩) ?_ ?_
    rotate_left
    · intro w'
      go_simp
      with_reducible rfl
    rotate_left
    · simp only [Act.put, List.setIfInBounds_toArray, List.set_cons_zero, List.set_cons_succ, i64_w, i32_w]
      rfl
    refine pure_ (i := 11) (N := some 33) (v := ?_) (a' := ?_) #[true, true, true, true, true, true, true, true, true, true, true, true, false] rfl rfl (by kernel_rfl) (fun _ _ _ h => h) (Or.inl ⟨by rfl, ?_⟩) ?_ ?_
    rotate_left
    · intro w'
      go_simp
      with_reducible rfl
    rotate_left
    · simp only [Act.put, List.setIfInBounds_toArray, List.set_cons_zero, List.set_cons_succ, i64_w, i32_w]
      rfl
    refine last_ (i := 12) (N := none) #[true, true, true, true, true, true, true, true, true, true, true, true, true] rfl rfl (by kernel_rfl) (by decide) (fun K hK => ?_)
    refine skip_ (w1 := ?_) (by rfl) rfl ?_ ?_
    rotate_left
    · go_simp
      rfl
    refine hK.out _ _ ?_
    clear hK K
    refine done_ (by kernel_rfl) ?_
    have hg4 : g4 ≠ a := by have := HGE.out; have := HA.out.2.1; omega
    go_wp2
    go_roundg kk
    case measure => omega
    case rel => exact ⟨_, _, rfl, ⟨by rw [List.length_set]; exact HN.out⟩, HX, ⟨Kd.R_putn HL.out i _⟩, ⟨blk_far HG.out (p := ⟨a, i.toNat, none⟩) HA.out.1 _⟩, ⟨blk_far B4.out (p := ⟨a, i.toNat, none⟩) hg4 _⟩, ⟨HK.out.setCell (p := ⟨a, i.toNat, none⟩) (.inl rfl) _⟩, ⟨HB.out.setCell (p := ⟨a, i.toNat, none⟩) HA.out.2.2.2 _⟩⟩
end Go.Proofs.Ytcnpekpgghppnaa.Q

/- predict, update, Counts, extend.Split. Printed by wip/tools of this session. -/
namespace Go.Proofs.Ytcnpekpgghppnaa.Q
open Go.RowKit Go.Proofs.YtcnpekpgghppnaaW.PrintWords Go.Proofs.YtcnpekpgghppnaaW.PrintLast Go.Proofs.YtcnpekpgghppnaaW.PrintMore
set_option linter.unusedVariables false
set_option linter.unusedSimpArgs false

def predN (kk : Int) : Nat := if kk = 1 then 84 else if kk = 2 then 86 else 87
def updN (kk : Int) : Nat := if kk = 1 then 88 else 89
def prF (kk : Int) (k : Nat) : List Int → Int → Option Int := if kk = 1 then pr1F k else if kk = 2 then pr2F k else pr3F k
def upF (kk : Int) (k : Nat) : List Int → Int → Option Int := if kk = 1 then up1F k else up2F k
theorem pr_fn (kk : Int) (k : Nat) : LineFn (predN kk) (prF kk k) := by
  unfold predN prF
  by_cases h1 : kk = 1
  · rw [if_pos h1, if_pos h1]; exact pr1_fn k
  · rw [if_neg h1, if_neg h1]
    by_cases h2 : kk = 2
    · rw [if_pos h2, if_pos h2]; exact pr2_fn k
    · rw [if_neg h2, if_neg h2]; exact pr3_fn k
theorem up_fn (kk : Int) (k : Nat) : LineFn (updN kk) (upF kk k) := by
  unfold updN upF
  by_cases h1 : kk = 1
  · rw [if_pos h1, if_pos h1]; exact up1_fn k
  · rw [if_neg h1, if_neg h1]; exact up2_fn k
theorem predN_func (kk : Int) : ∃ fn, Try.prog.funcs[predN kk]? = some fn ∧ (fn.name == "runtime.NumGoroutine") = false ∧ fn.body.isSome = true := by
  unfold predN
  split
  · exact ⟨Try.f84, Try.func84, by kernel_rfl, by kernel_rfl⟩
  · split
    · exact ⟨Try.f86, Try.func86, by kernel_rfl, by kernel_rfl⟩
    · exact ⟨Try.f87, Try.func87, by kernel_rfl, by kernel_rfl⟩
theorem updN_func (kk : Int) : ∃ fn, Try.prog.funcs[updN kk]? = some fn ∧ (fn.name == "runtime.NumGoroutine") = false ∧ fn.body.isSome = true := by
  unfold updN
  split
  · exact ⟨Try.f88, Try.func88, by kernel_rfl, by kernel_rfl⟩
  · exact ⟨Try.f89, Try.func89, by kernel_rfl, by kernel_rfl⟩
set_option maxHeartbeats 8000000 in
set_option maxRecDepth 100000 in
theorem predict.calls (kk : Int) (A : Option Addr) (n c : Nat) (start : Int) (w : World) :
    Calls Try.prog 78 #[.agg #[.slice A n c, .int .i64 start], .int .i64 kk] w fun e w' => ∃ g, e = .returned (.func (.func (predN kk)) #[] #[.pointer (some ⟨g, 0, none⟩)]) ∧ w'.heap[g]? = some (.cells #[.slice A n c, .int .i64 start] 97 (0, 0)) ∧ w.heap.size ≤ g ∧ Below w.heap.size w w' := by
  have hmf : ∀ (fn : Fn) (first cap : Array Value) (w : World), (Instr.makeFunc fn first cap).run Try.prog w = .ok (.func fn first cap) w := fun _ _ _ _ => rfl
  unfold predN
  by_cases h1 : kk = 1
  · rw [if_pos h1]
    have b1 : (kk == 1) = true := beq_iff_eq.mpr h1
    clear h1
    go_enter Try.func78, Try.ntmps78
    go_wp2_with ((with_reducible refine gate_dst (N := 2) rfl ?_); refine box_event ?hg (N := 2) ?hd (cs := #[.slice A n c, .int .i64 start]) (t := 97) ?hr ?_; (case hd => rfl); (case hg => rfl); (case hr => first | (go_simp; done) | (go_simp; rfl)); intro g2 hg W2 hbox hb; have B2 := Aside0.mk hbox; have HB := Aside0.mk hb; have HG := Aside0.mk (show w.heap.size ≤ g2 by rw [hg]; exact Nat.le_refl _); clear hbox hb hg)
    go_ret
    exact ⟨_, rfl, B2.out, HG.out, HB.out⟩
  rw [if_neg h1]
  have b1 : (kk == 1) = false := beq_eq_false_iff_ne.mpr h1
  clear h1
  by_cases h2 : kk = 2
  · rw [if_pos h2]
    have b2 : (kk == 2) = true := beq_iff_eq.mpr h2
    clear h2
    go_enter Try.func78, Try.ntmps78
    go_wp2_with ((with_reducible refine gate_dst (N := 2) rfl ?_); refine box_event ?hg (N := 2) ?hd (cs := #[.slice A n c, .int .i64 start]) (t := 97) ?hr ?_; (case hd => rfl); (case hg => rfl); (case hr => first | (go_simp; done) | (go_simp; rfl)); intro g2 hg W2 hbox hb; have B2 := Aside0.mk hbox; have HB := Aside0.mk hb; have HG := Aside0.mk (show w.heap.size ≤ g2 by rw [hg]; exact Nat.le_refl _); clear hbox hb hg)
    go_ret
    exact ⟨_, rfl, B2.out, HG.out, HB.out⟩
  rw [if_neg h2]
  have b2 : (kk == 2) = false := beq_eq_false_iff_ne.mpr h2
  clear h2
  go_enter Try.func78, Try.ntmps78
  go_wp2_with ((with_reducible refine gate_dst (N := 2) rfl ?_); refine box_event ?hg (N := 2) ?hd (cs := #[.slice A n c, .int .i64 start]) (t := 97) ?hr ?_; (case hd => rfl); (case hg => rfl); (case hr => first | (go_simp; done) | (go_simp; rfl)); intro g2 hg W2 hbox hb; have B2 := Aside0.mk hbox; have HB := Aside0.mk hb; have HG := Aside0.mk (show w.heap.size ≤ g2 by rw [hg]; exact Nat.le_refl _); clear hbox hb hg)
  go_ret
  exact ⟨_, rfl, B2.out, HG.out, HB.out⟩
set_option maxHeartbeats 8000000 in
set_option maxRecDepth 100000 in
theorem update.calls (kk : Int) (A : Option Addr) (n c : Nat) (start : Int) (w : World) :
    Calls Try.prog 79 #[.agg #[.slice A n c, .int .i64 start], .int .i64 kk] w fun e w' => ∃ g, e = .returned (.func (.func (updN kk)) #[] #[.pointer (some ⟨g, 0, none⟩)]) ∧ w'.heap[g]? = some (.cells #[.slice A n c, .int .i64 start] 97 (0, 0)) ∧ w.heap.size ≤ g ∧ Below w.heap.size w w' := by
  have hmf : ∀ (fn : Fn) (first cap : Array Value) (w : World), (Instr.makeFunc fn first cap).run Try.prog w = .ok (.func fn first cap) w := fun _ _ _ _ => rfl
  unfold updN
  by_cases h1 : kk = 1
  · rw [if_pos h1]
    have b1 : (kk == 1) = true := beq_iff_eq.mpr h1
    clear h1
    go_enter Try.func79, Try.ntmps79
    go_wp2_with ((with_reducible refine gate_dst (N := 2) rfl ?_); refine box_event ?hg (N := 2) ?hd (cs := #[.slice A n c, .int .i64 start]) (t := 97) ?hr ?_; (case hd => rfl); (case hg => rfl); (case hr => first | (go_simp; done) | (go_simp; rfl)); intro g2 hg W2 hbox hb; have B2 := Aside0.mk hbox; have HB := Aside0.mk hb; have HG := Aside0.mk (show w.heap.size ≤ g2 by rw [hg]; exact Nat.le_refl _); clear hbox hb hg)
    go_ret
    exact ⟨_, rfl, B2.out, HG.out, HB.out⟩
  rw [if_neg h1]
  have b1 : (kk == 1) = false := beq_eq_false_iff_ne.mpr h1
  clear h1
  go_enter Try.func79, Try.ntmps79
  go_wp2_with ((with_reducible refine gate_dst (N := 2) rfl ?_); refine box_event ?hg (N := 2) ?hd (cs := #[.slice A n c, .int .i64 start]) (t := 97) ?hr ?_; (case hd => rfl); (case hg => rfl); (case hr => first | (go_simp; done) | (go_simp; rfl)); intro g2 hg W2 hbox hb; have B2 := Aside0.mk hbox; have HB := Aside0.mk hb; have HG := Aside0.mk (show w.heap.size ≤ g2 by rw [hg]; exact Nat.le_refl _); clear hbox hb hg)
  go_ret
  exact ⟨_, rfl, B2.out, HG.out, HB.out⟩
/-- How many even places there are. -/
def cntE (s n : Int) : Int := wrap64 (wrap64 (Int.tdiv (wrap64 (wrap64 (s + n) + 1)) 2) - wrap64 (Int.tdiv (wrap64 (s + 1)) 2))
set_option maxHeartbeats 8000000 in
set_option maxRecDepth 100000 in
theorem below_fn (x : Int) (w : World) : Calls Try.prog 91 #[.int .i64 x] w fun e w' => e = .returned (.int .i64 (wrap64 (Int.tdiv (wrap64 (x + 1)) 2))) ∧ w' = w := by
  go_enter Try.func91, Try.ntmps91
  go_wp2
  go_ret
  exact ⟨rfl, rfl⟩
set_option maxHeartbeats 8000000 in
set_option maxRecDepth 100000 in
theorem extend_Counts.good (s n : Int) (h0 : 0 ≤ s) (h1 : s ≤ 4096) (h2 : 0 ≤ n) (h3 : n ≤ 4096) (w : World) : Calls Try.prog 90 #[.int .i64 s, .int .i64 n] w fun e w' => e = .returned (.tuple #[.int .i64 (cntE s n), .int .i64 (wrap64 (n - cntE s n))]) ∧ w' = w := by
  have b0 : decide (s < 0) = false := decide_eq_false (by omega)
  have b1 : decide (4096 < s) = false := decide_eq_false (by omega)
  have b2 : decide (n < 0) = false := decide_eq_false (by omega)
  have b3 : decide (4096 < n) = false := decide_eq_false (by omega)
  clear h0 h1 h2 h3
  go_enter Try.func90, Try.ntmps90
  go_wp2_with (go_at_call 91; (with_reducible refine (below_fn _ _).mono ?_); rintro _ w1 ⟨rfl, hq⟩; have hq' := hq.symm; clear hq; subst hq')
  go_ret2
  exact ⟨rfl, rfl⟩
/-- make([]T, n, c) in a drawn region. -/
theorem R_make_cap_step {P : Program} {ops : Array Oper} {o : Oper} {a : Act} {Q : Exit → Act → World → Prop} {Kc : Act → World → Prop} {α : Type} (d : Kd α) {w0 W : World} (base e : Nat) (hw : Region.wanted o (yielded ops a.tmps) = true) {N : Tmp} (hd : o.dst = some N) (t : TypeId) (x y : Operand) (ho : o.op = .makeSlice t x y) (kx ky : IntKind) (n c : Int) (hx : a.eval x = .int kx n) (hy : a.eval y = .int ky c)
    (ht : P.underlying t = some (.slice e)) (z : Value) (bytes : Nat) (hinfo : (P.info? e).map (fun i => (i.zero, i.size, i.bytes)) = some (some z, d.sz, bytes)) (hz : z.cells.size = d.sz) (hs0 : 0 < d.sz) (hb0 : 0 < bytes)
    (z0 : α) {ok okp : Nat → Prop} (hzero : d.M W base okp z0 z.cells.toList) (hok : ∀ k, okp k → ok k) (hfresh : ok W.heap.size) (h0 : 0 ≤ n) (hnc : n ≤ c) (hl : c.toNat * bytes ≤ 281474976710656) (HB : Below base w0 W) (hbase : base ≤ W.heap.size)
    (h : ∀ v1 w1, d.R e w1 base ok v1 (List.replicate n.toNat z0) → Below base w0 w1 → Below W.heap.size W w1 → (∃ b, v1.ownBlock = some b ∧ W.heap.size ≤ b) → Kc (a.put o.dst v1) w1) : if Region.wanted o (yielded ops a.tmps) = true then Oper.wp P o a W Kc Q else Kc (a.put o.dst undef) W := by
  obtain ⟨m, rfl⟩ := Int.eq_ofNat_of_zero_le h0
  obtain ⟨q, rfl⟩ := Int.eq_ofNat_of_zero_le (show 0 ≤ c by omega)
  simp only [Int.toNat_natCast] at hl h
  obtain ⟨i0, hi, hzz⟩ := Option.map_eq_some_iff.1 hinfo
  simp only [Prod.mk.injEq] at hzz
  obtain ⟨hz0, hz1, hz2⟩ := hzz
  have hm : q ≤ 281474976710656 := Nat.le_trans (Nat.le_mul_of_pos_right _ hb0) hl
  have hr := run_make (P := P) W t e i0 z ht hi hz0 kx ky (m : Int) (q : Int) (by omega) hnc
    (by
      have h3 : ((i0.bytes * q : Nat) : Int) ≤ 281474976710656 := by rw [hz2, Nat.mul_comm]; omega
      rwa [Int.natCast_mul] at h3) (by omega)
  simp only [Int.toNat_natCast] at hr
  rw [hz1] at hr
  refine event_step hw (by simp [execOp, ho, hx, hy, hr]) (h _ _ (Kd.R_made d base e bytes z hz hs0 hb0 z0 hzero hok hfresh hbase m q (by omega) hl) (HB.alloc hbase _) (below_alloc (Below.refl _ _) _) ⟨W.heap.size, by simp [Value.ownBlock], Nat.le_refl _⟩)
/-- The numbers at even and at odd places, behind lo and hi. -/
def splitF (start : Int) (xs : List Int) : Nat → Int → List Int → List Int → Option (List Int × List Int)
  | 0, _, _, _ => none
  | k + 1, i, lo, hi => if i < (xs.length : Int) then (if 0 ≤ i then (if lo.length < 1000000 ∧ hi.length < 1000000 then (if Int.tmod (wrap64 (start + i)) 2 = 0 then splitF start xs k (wrap64 (i + 1)) (lo ++ [rd xs i]) hi else splitF start xs k (wrap64 (i + 1)) lo (hi ++ [rd xs i])) else none) else none) else some (lo, hi)
theorem cntE_eq {s n : Int} (h0 : 0 ≤ s) (h1 : s ≤ 4096) (h2 : 0 ≤ n) (h3 : n ≤ 4096) : cntE s n = (s + n + 1) / 2 - (s + 1) / 2 := by
  unfold cntE
  rw [show wrap64 (wrap64 (s + n) + 1) = s + n + 1 by unfold wrap64; omega, show wrap64 (s + 1) = s + 1 by unfold wrap64; omega, Int.tdiv_eq_ediv_of_nonneg (by omega), Int.tdiv_eq_ediv_of_nonneg (by omega)]
  unfold wrap64
  omega
set_option maxHeartbeats 8000000 in
set_option maxRecDepth 100000 in
theorem extend_Split.good (k : Nat) (A : Option Addr) (c : Nat) (xs : List Int) (start : Int) (lo hi : List Int) (w : World) (hr : Kd.C (Kd.int .i64) w A xs.length xs) (h0 : 0 ≤ start) (h1 : start ≤ 4096) (hl : xs.length ≤ 4096) (h : splitF start xs k 0 [] [] = some (lo, hi)) :
    Calls Try.prog 80 #[.slice A xs.length c, .int .i64 start] w fun e w' => ∃ v1 v2, e = .returned (.tuple #[v1, v2, .int .i64 0]) ∧ Kd.R (Kd.int .i64) 3 w' w.heap.size (fun _ => True) v1 lo ∧ Kd.R (Kd.int .i64) 3 w' w.heap.size (fun _ => True) v2 hi ∧ Below w.heap.size w w' := by
  have H := Aside0.mk h
  have HR := Aside0.mk hr
  have b0 : decide (start < 0) = false := decide_eq_false (by omega)
  have b1 : decide (4096 < start) = false := decide_eq_false (by omega)
  have b2 : decide (4096 < (xs.length : Int)) = false := decide_eq_false (by omega)
  have b3 : decide (4096 < xs.length) = false := decide_eq_false (by omega)
  have HQ := Aside0.mk (fun W : World => extend_Counts.good start (xs.length : Int) h0 h1 (by omega) (by omega) W)
  have HZ := Aside0.mk (show (0 ≤ cntE start (xs.length : Int) ∧ cntE start (xs.length : Int) ≤ 4096) ∧ (0 ≤ wrap64 ((xs.length : Int) - cntE start (xs.length : Int)) ∧ wrap64 ((xs.length : Int) - cntE start (xs.length : Int)) ≤ 4096) by
    rw [cntE_eq h0 h1 (by omega) (by omega)]
    unfold wrap64
    omega)
  clear h hr h0 h1 hl
  go_enter Try.func80, Try.ntmps80
  go_upto_region 4 with (go_at_call 90; (with_reducible refine (HQ.out _).mono ?_); rintro _ w1 ⟨rfl, hq⟩; have hq' := hq.symm; clear hq; subst hq')
  clear b0 b1 b2 b3 HQ
  go_cut [4, 5] (fun v4 v5 wc => Aside0 (Kd.R (Kd.int .i64) 3 wc w.heap.size (fun k => True ∧ some k ≠ v5.ownBlock) v4 []) ∧ Aside0 (Kd.R (Kd.int .i64) 3 wc w.heap.size (fun k => True ∧ some k ≠ v4.ownBlock) v5 []) ∧ Aside0 (Below w.heap.size w wc))
  case first =>
    have BW := Aside0.mk (below_drew1 (Below.refl w.heap.size w))
    refine start_ (n := 6) (S := fun w' => True) (ds := []) #[false, false, false, false, false, false] (by kernel_rfl) rfl rfl trivial (fun hHeld0 => ?_)
    generalize hw1 : w.drew = w1 at *
    clear hw1
    have hHeld := Aside0.mk hHeld0
    clear hHeld0
    refine pure_ (i := 0) (N := some 29) (v := ?_) (a' := ?_) #[true, false, false, false, false, false] rfl rfl (by kernel_rfl) (fun _ _ _ h => h) (Or.inl ⟨by rfl, ?_⟩) ?_ ?_
    rotate_left
    · intro w'
      go_simp
      with_reducible rfl
    rotate_left
    · simp only [Act.put, List.setIfInBounds_toArray, List.set_cons_zero, List.set_cons_succ, i64_w, i32_w]
      rfl
    refine pure_ (i := 2) (N := some 31) (v := ?_) (a' := ?_) #[true, false, true, false, false, false] rfl rfl (by kernel_rfl) (fun _ _ _ h => h) (Or.inl ⟨by rfl, ?_⟩) ?_ ?_
    rotate_left
    · intro w'
      go_simp
      with_reducible rfl
    rotate_left
    · simp only [Act.put, List.setIfInBounds_toArray, List.set_cons_zero, List.set_cons_succ, i64_w, i32_w]
      rfl
    refine two_ (i := 1) (j := 3) (Ni := some 30) (Nj := some 32) #[true, true, true, false, false, false] #[true, false, true, true, false, false] rfl rfl rfl rfl (by kernel_rfl) (by decide) (by decide) (fun K hK => ?_) (fun K hK => ?_)
    · skip
      refine R_make_cap_step (Kd.int .i64) (w0 := w) w.heap.size 3 (by rfl) (N := 30) rfl 24 (.const (.int .i64 0)) (.tmp 29) rfl .i64 .i64 0 (cntE start (xs.length : Int)) rfl rfl Try.underlying24 (.int .i64 0) 8 info3 rfl (by decide) (by omega) (0 : Int) (okp := fun _ => False) (ok := fun _ => True) rfl (fun _ h => h.elim) trivial (by omega) (by have := HZ.out; omega) (by have := HZ.out; omega) BW.out (below_size BW.out) ?_
      intro va w2 ho hb hb2 hat
      have HA := Aside0.mk ho
      have BW' := Aside0.mk hb
      clear BW ho hb hb2 hat
      have BW := BW'
      clear BW'
      refine hK.out _ _ trivial (fun hHeld => ?_)
      clear hK K
      refine norm_ (a' := ?_) ?_ ?_
      rotate_left
      · show Act.put _ (some 30) _ = _
        simp only [Act.put, List.setIfInBounds_toArray, List.set_cons_zero, List.set_cons_succ, i64_w, i32_w]
        rfl
      refine pure_ (i := 4) (N := some 4) (v := ?_) (a' := ?_) #[true, true, true, false, true, false] rfl rfl (by kernel_rfl) (fun _ _ _ h => h) (Or.inl ⟨by rfl, ?_⟩) ?_ ?_
      rotate_left
      · intro w'
        go_simp
        with_reducible rfl
      rotate_left
      · simp only [Act.put, List.setIfInBounds_toArray, List.set_cons_zero, List.set_cons_succ, i64_w, i32_w]
        rfl
      refine one_ (i := 3) (N := some 32) #[true, true, true, true, true, false] rfl rfl (by kernel_rfl) (by decide) (fun K hK => ?_)
      refine R_make_cap_step (Kd.int .i64) (w0 := w2) w2.heap.size 3 (by rfl) (N := 32) rfl 24 (.const (.int .i64 0)) (.tmp 31) rfl .i64 .i64 0 (wrap64 ((xs.length : Int) - cntE start (xs.length : Int))) rfl rfl Try.underlying24 (.int .i64 0) 8 info3 rfl (by decide) (by omega) (0 : Int) (okp := fun _ => False) (ok := fun _ => True) rfl (fun _ h => h.elim) trivial (by omega) (by have := HZ.out; omega) (by have := HZ.out; omega) (Below.refl _ _) (Nat.le_refl _) ?_
      intro vb w3 ho hb hb2 hat
      have HP := Aside0.mk (Kd.R_elder HA.out ho hb)
      have HQ := Aside0.mk (Kd.R_lower (Kd.R_newR ho HA.out) (below_size BW.out))
      have BW' := Aside0.mk (BW.out.trans (hb.mono (below_size BW.out)))
      clear BW ho hb hb2 hat HA
      have BW := BW'
      clear BW'
      refine hK.out _ _ trivial (fun hHeld => ?_)
      clear hK K
      refine norm_ (a' := ?_) ?_ ?_
      rotate_left
      · show Act.put _ (some 32) _ = _
        simp only [Act.put, List.setIfInBounds_toArray, List.set_cons_zero, List.set_cons_succ, i64_w, i32_w]
        rfl
      refine pure_ (i := 5) (N := some 5) (v := ?_) (a' := ?_) #[true, true, true, true, true, true] rfl rfl (by kernel_rfl) (fun _ _ _ h => h) (Or.inl ⟨by rfl, ?_⟩) ?_ ?_
      rotate_left
      · intro w'
        go_simp
        with_reducible rfl
      rotate_left
      · simp only [Act.put, List.setIfInBounds_toArray, List.set_cons_zero, List.set_cons_succ, i64_w, i32_w]
        rfl
      refine done_ (by kernel_rfl) ?_
      go_wp2
      go_meet
      case rel => exact ⟨HP, HQ, BW⟩
    · skip
      refine R_make_cap_step (Kd.int .i64) (w0 := w) w.heap.size 3 (by rfl) (N := 32) rfl 24 (.const (.int .i64 0)) (.tmp 31) rfl .i64 .i64 0 (wrap64 ((xs.length : Int) - cntE start (xs.length : Int))) rfl rfl Try.underlying24 (.int .i64 0) 8 info3 rfl (by decide) (by omega) (0 : Int) (okp := fun _ => False) (ok := fun _ => True) rfl (fun _ h => h.elim) trivial (by omega) (by have := HZ.out; omega) (by have := HZ.out; omega) BW.out (below_size BW.out) ?_
      intro va w2 ho hb hb2 hat
      have HA := Aside0.mk ho
      have BW' := Aside0.mk hb
      clear BW ho hb hb2 hat
      have BW := BW'
      clear BW'
      refine hK.out _ _ trivial (fun hHeld => ?_)
      clear hK K
      refine norm_ (a' := ?_) ?_ ?_
      rotate_left
      · show Act.put _ (some 32) _ = _
        simp only [Act.put, List.setIfInBounds_toArray, List.set_cons_zero, List.set_cons_succ, i64_w, i32_w]
        rfl
      refine one_ (i := 1) (N := some 30) #[true, true, true, true, false, false] rfl rfl (by kernel_rfl) (by decide) (fun K hK => ?_)
      refine R_make_cap_step (Kd.int .i64) (w0 := w2) w2.heap.size 3 (by rfl) (N := 30) rfl 24 (.const (.int .i64 0)) (.tmp 29) rfl .i64 .i64 0 (cntE start (xs.length : Int)) rfl rfl Try.underlying24 (.int .i64 0) 8 info3 rfl (by decide) (by omega) (0 : Int) (okp := fun _ => False) (ok := fun _ => True) rfl (fun _ h => h.elim) trivial (by omega) (by have := HZ.out; omega) (by have := HZ.out; omega) (Below.refl _ _) (Nat.le_refl _) ?_
      intro vb w3 ho hb hb2 hat
      have HP := Aside0.mk (Kd.R_elder HA.out ho hb)
      have HQ := Aside0.mk (Kd.R_lower (Kd.R_newR ho HA.out) (below_size BW.out))
      have BW' := Aside0.mk (BW.out.trans (hb.mono (below_size BW.out)))
      clear BW ho hb hb2 hat HA
      have BW := BW'
      clear BW'
      refine hK.out _ _ trivial (fun hHeld => ?_)
      clear hK K
      refine norm_ (a' := ?_) ?_ ?_
      rotate_left
      · show Act.put _ (some 30) _ = _
        simp only [Act.put, List.setIfInBounds_toArray, List.set_cons_zero, List.set_cons_succ, i64_w, i32_w]
        rfl
      refine pure_ (i := 4) (N := some 4) (v := ?_) (a' := ?_) #[true, true, true, true, true, false] rfl rfl (by kernel_rfl) (fun _ _ _ h => h) (Or.inl ⟨by rfl, ?_⟩) ?_ ?_
      rotate_left
      · intro w'
        go_simp
        with_reducible rfl
      rotate_left
      · simp only [Act.put, List.setIfInBounds_toArray, List.set_cons_zero, List.set_cons_succ, i64_w, i32_w]
        rfl
      refine pure_ (i := 5) (N := some 5) (v := ?_) (a' := ?_) #[true, true, true, true, true, true] rfl rfl (by kernel_rfl) (fun _ _ _ h => h) (Or.inl ⟨by rfl, ?_⟩) ?_ ?_
      rotate_left
      · intro w'
        go_simp
        with_reducible rfl
      rotate_left
      · simp only [Act.put, List.setIfInBounds_toArray, List.set_cons_zero, List.set_cons_succ, i64_w, i32_w]
        rfl
      refine done_ (by kernel_rfl) ?_
      go_wp2
      go_meet
      case rel => exact ⟨HQ, HP, BW⟩
  case rest =>
  obtain ⟨HL, HH, BW⟩ := hcut
  clear HZ
  go_wp2
  go_loopg [4, 5, 35] k (fun kq v4 v5 v35 w' => ∃ (i : Int) (lo' hi' : List Int), v35 = .int .i64 i ∧ Aside0 (splitF start xs kq i lo' hi' = some (lo, hi)) ∧ Aside0 (Kd.R (Kd.int .i64) 3 w' w.heap.size (fun k => True ∧ some k ≠ v5.ownBlock) v4 lo') ∧ Aside0 (Kd.R (Kd.int .i64) 3 w' w.heap.size (fun k => True ∧ some k ≠ v4.ownBlock) v5 hi') ∧ Aside0 (Below w.heap.size w w'))
  case atStart => exact ⟨0, [], [], rfl, H, HL, HH, BW⟩
  case round =>
  clear H HL HH BW
  obtain ⟨i, lo', hi', rfl, HX, HL, HH, BW⟩ := hrel
  cases gk with
  | zero => exact absurd HX.out (by simp [splitF])
  | succ kk =>
  have hs := HX.out
  clear HX
  rw [splitF.eq_2] at hs
  by_cases hi : i < (xs.length : Int)
  rotate_left
  · rw [if_neg hi] at hs
    have hb0 : decide (i < (xs.length : Int)) = false := decide_eq_false hi
    simp only [Option.some.injEq, Prod.mk.injEq] at hs
    obtain ⟨rfl, rfl⟩ := hs
    clear hi
    go_wp2
    go_ret3
    exact ⟨_, _, rfl, Kd.R_mono HL.out (fun _ _ => trivial), Kd.R_mono HH.out (fun _ _ => trivial), BW.out⟩
  rw [if_pos hi] at hs
  by_cases hi0 : 0 ≤ i
  rotate_left
  · rw [if_neg hi0] at hs
    cases hs
  rw [if_pos hi0] at hs
  by_cases hlim : lo'.length < 1000000 ∧ hi'.length < 1000000
  rotate_left
  · rw [if_neg hlim] at hs
    cases hs
  rw [if_pos hlim] at hs
  have HLIM := Aside0.mk hlim
  obtain ⟨A4, c4, rfl⟩ := Kd.R_slice HL.out
  obtain ⟨A5, c5, rfl⟩ := Kd.R_slice HH.out
  obtain ⟨ad, e0, hx⟩ := Kd.at_int (Kd.C_below HR.out BW.out) i hi0 hi
  subst e0
  have hb0 : decide (i < (xs.length : Int)) = true := decide_eq_true hi
  have p0 : (0 ≤ i) = True := eq_true hi0
  have p1 : (i < (xs.length : Int)) = True := eq_true hi
  clear hi hi0 hlim
  by_cases hp : Int.tmod (wrap64 (start + i)) 2 = 0
  · rw [if_pos hp] at hs
    have HX := Aside0.mk hs
    have hb1 : (Int.tmod (wrap64 (start + i)) 2 == 0) = true := beq_iff_eq.mpr hp
    clear hs hp
    go_wp2_with (first | ((with_reducible refine gate_builtin (b := .append) (xs := #[.tmp 45, .tmp 47]) rfl ?_); at_builtin; refine Kd.R_append (Kd.int .i64) (w0 := w) w.heap.size rfl (.tmp 45) (.tmp 47) 24 3 (.int .i64 0) 8 rfl Try.underlying24 info3 rfl (by decide) (by omega) (.slice A4 lo'.length c4) lo' (rd xs i) [.int .i64 (rd xs i)] (fun k => True ∧ some k ≠ ((.slice A5 hi'.length c5) : Value).ownBlock) (fun _ => False) rfl rfl ?aP (fun _ hk => hk.elim) ?aF ?aO ?aB ?aS ?aL ?_; (case aP => exact rfl); (case aF => exact fun k hk => ⟨trivial, fun e => by have := Kd.R_lt HH.out k e.symm; omega⟩); (case aO => exact HL.out); (case aB => exact BW.out); (case aS => exact below_size BW.out); (case aL => have := HLIM.out; omega); intro vn w7 ho hb hg hat; have HO1 := Aside0.mk ho; have HO2 := Aside0.mk (Kd.R_after HH.out hg hat); have BW' := Aside0.mk hb; clear ho hb hg hat hx BW HL HH; have BW := BW'; clear BW'))
    go_roundg kk
    case measure => omega
    case rel => exact ⟨_, _, _, rfl, HX, HO1, HO2, BW⟩
  · rw [if_neg hp] at hs
    have HX := Aside0.mk hs
    have hb1 : (Int.tmod (wrap64 (start + i)) 2 == 0) = false := beq_eq_false_iff_ne.mpr hp
    clear hs hp
    go_wp2_with (first | ((with_reducible refine gate_builtin (b := .append) (xs := #[.tmp 49, .tmp 51]) rfl ?_); at_builtin; refine Kd.R_append (Kd.int .i64) (w0 := w) w.heap.size rfl (.tmp 49) (.tmp 51) 24 3 (.int .i64 0) 8 rfl Try.underlying24 info3 rfl (by decide) (by omega) (.slice A5 hi'.length c5) hi' (rd xs i) [.int .i64 (rd xs i)] (fun k => True ∧ some k ≠ ((.slice A4 lo'.length c4) : Value).ownBlock) (fun _ => False) rfl rfl ?aP (fun _ hk => hk.elim) ?aF ?aO ?aB ?aS ?aL ?_; (case aP => exact rfl); (case aF => exact fun k hk => ⟨trivial, fun e => by have := Kd.R_lt HL.out k e.symm; omega⟩); (case aO => exact HH.out); (case aB => exact BW.out); (case aS => exact below_size BW.out); (case aL => have := HLIM.out; omega); intro vn w7 ho hb hg hat; have HO1 := Aside0.mk ho; have HO2 := Aside0.mk (Kd.R_after HL.out hg hat); have BW' := Aside0.mk hb; clear ho hb hg hat hx BW HL HH; have BW := BW'; clear BW'))
    go_roundg kk
    case measure => omega
    case rel => exact ⟨_, _, _, rfl, HX, HO2, HO1, BW⟩
end Go.Proofs.Ytcnpekpgghppnaa.Q

namespace Go.Proofs.Ytcnpekpgghppnaa.Q
open Go.RowKit Go.Proofs.YtcnpekpgghppnaaW.PrintWords Go.Proofs.YtcnpekpgghppnaaW.PrintLast Go.Proofs.YtcnpekpgghppnaaW.PrintMore
attribute [local go_sem] max2_int min2_int max_two min_two max_three min_three max_four min_four   -- for this text's walks alone
set_option linter.unusedVariables false
set_option linter.unusedSimpArgs false

/-! ### lift_known: function 75 -/
def lift_known.f (a0 : Int) : Option (Bool) := if a0 ≥ 1 then (some (decide (a0 ≤ 3))) else (some false)
set_option maxHeartbeats 8000000 in
set_option maxRecDepth 100000 in
theorem lift_known.calls (a0 : Int) (r : Bool) (w : World) (h : lift_known.f a0 = some r) :
    Calls Try.prog 75 #[.int .i64 a0] w fun e w' => e = .returned (.bool r) ∧ Drawn0 w w' := by
  have H : (if a0 ≥ 1 then (some (decide (a0 ≤ 3))) else (some false)) = some r := h
  clear h
  by_cases c2 : a0 ≥ 1
  · rw [if_pos c2] at H
    have c2b0 : decide (1 ≤ a0) = true := decide_eq_true c2
    clear c2
    obtain rfl := Option.some.inj H
    go_enter Try.func75, Try.ntmps75
    go_wp2
    go_ret
    exact ⟨by first | rfl | (simp; done) | (simp [*]; done), by repeat (first | exact Drawn0.refl _ | apply Drawn0.step)⟩
  · rw [if_neg c2] at H
    have c2b0 : decide (1 ≤ a0) = false := decide_eq_false c2
    clear c2
    obtain rfl := Option.some.inj H
    go_enter Try.func75, Try.ntmps75
    go_wp2
    go_ret
    exact ⟨by first | rfl | (simp; done) | (simp [*]; done), by repeat (first | exact Drawn0.refl _ | apply Drawn0.step)⟩

end Go.Proofs.Ytcnpekpgghppnaa.Q

namespace Go.Proofs.Ytcnpekpgghppnaa.Q
open Go.RowKit Go.Proofs.YtcnpekpgghppnaaW.PrintWords Go.Proofs.YtcnpekpgghppnaaW.PrintLast Go.Proofs.YtcnpekpgghppnaaW.PrintMore
attribute [local go_sem] max2_int min2_int max_two min_two max_three min_three max_four min_four   -- for this text's walks alone
set_option linter.unusedVariables false
set_option linter.unusedSimpArgs false

/-! ### lift_bounded: function 76 -/
def lift_bounded.l0 : Nat → Int → List Int → Int → Int → Option (Bool)
  | 0, _, _, _, _ => none
  | k + 1, x1, x7, x8, x9 => if x9 < x8 then (if 0 ≤ x9 then (if x9 < (x7.length : Int) then (if (rd x7 x9) < (wrap64 (-x1)) then (some false) else (if (rd x7 x9) > x1 then (some false) else (lift_bounded.l0 k x1 x7 x8 (wrap64 (x9 + 1))))) else (none)) else (none)) else (some true)
def lift_bounded.f (k : Nat) (l0 : List Int) (a1 : Int) : Option (Bool) := lift_bounded.l0 k a1 l0 (l0.length : Int) 0
theorem lift_bounded.mono_l : ∀ k, (∀ y0 y1 y2 y3, LeO (lift_bounded.l0 k y0 y1 y2 y3) (lift_bounded.l0 (k + 1) y0 y1 y2 y3))
  | 0 => fun _ _ _ _ r h => by simp [lift_bounded.l0] at h
  | k + 1 => by
    have ih0 := lift_bounded.mono_l k
    · intro y0 y1 y2 y3
      unfold lift_bounded.l0
      repeat' first
      | (with_reducible exact ih0 _ _ _ _)
      | (with_reducible exact LeO.refl _)
      | (with_reducible exact LeO.none _)
      | (with_reducible refine LeO.ite ?_ ?_)
      | (with_reducible refine LeO.bind ?_ (fun _ => ?_))
      | exact ih0 _ _ _ _
      | exact LeO.none _
      | refine LeO.ite ?_ ?_
      | refine LeO.bind ?_ (fun _ => ?_)
theorem lift_bounded.mono : ∀ a0 a1 k, LeO (lift_bounded.f k a0 a1) (lift_bounded.f (k + 1) a0 a1) := by
  intro a0 a1 k
  have ih0 := lift_bounded.mono_l k
  unfold lift_bounded.f
  repeat' first
      | (with_reducible exact ih0 _ _ _ _)
      | (with_reducible exact LeO.refl _)
      | (with_reducible exact LeO.none _)
      | (with_reducible refine LeO.ite ?_ ?_)
      | (with_reducible refine LeO.bind ?_ (fun _ => ?_))
      | exact ih0 _ _ _ _
      | exact LeO.none _
      | refine LeO.ite ?_ ?_
      | refine LeO.bind ?_ (fun _ => ?_)
set_option maxHeartbeats 8000000 in
set_option maxRecDepth 100000 in
theorem lift_bounded.calls (k : Nat) (A0 : Option Addr) (c0 : Nat) (l0 : List Int) (a1 : Int) (r : Bool) (w : World) (hr0 : Kd.C (Kd.int .i64) w A0 l0.length l0) (hc0 : l0.length ≤ c0) (h : lift_bounded.f k l0 a1 = some r) :
    Calls Try.prog 76 #[.slice A0 l0.length c0, .int .i64 a1] w fun e w' => e = .returned (.bool r) ∧ Drawn0 w w' := by
  have HR0 := Aside0.mk hr0
  have HC0 := Aside0.mk hc0
  clear hr0 hc0
  have H : (lift_bounded.l0 k a1 l0 (l0.length : Int) 0) = some r := h
  clear h
  have H' := Aside0.mk H
  clear H
  go_enter Try.func76, Try.ntmps76
  go_wp2
  go_loopg [9] k (fun kq v9 w' => ∃ (x9_1 : Int), v9 = .int .i64 x9_1 ∧ Aside0 (lift_bounded.l0 kq a1 l0 (l0.length : Int) x9_1 = some r) ∧ Aside0 (kq ≤ k) ∧ Drawn0 w w')
  case atStart => exact ⟨(0), (by first | rfl | (simp; done) | (simp [*]; done)), H', ⟨Nat.le_refl _⟩, by repeat (first | exact Drawn0.refl _ | apply Drawn0.step)⟩
  case round =>
    clear H'
    try clear p2
    obtain ⟨x9_1, rfl, HA, HK1, ⟨m1, rfl⟩⟩ := hrel
    cases gk with
    | zero => exact absurd HA.out (by simp [lift_bounded.l0])
    | succ k1 =>
      have H := HA.out
      clear HA
      simp only [lift_bounded.l0] at H
      by_cases c3 : x9_1 < (l0.length : Int)
      · rw [if_pos c3] at H
        have c3b0 : decide (x9_1 < (l0.length : Int)) = true := decide_eq_true c3
        clear c3
        by_cases c4 : 0 ≤ x9_1
        · rw [if_pos c4] at H
          have c4b0 : decide (0 ≤ x9_1) = true := decide_eq_true c4
          clear c4
          by_cases c5 : x9_1 < (l0.length : Int)
          · rw [if_pos c5] at H
            have c5b0 : decide (x9_1 < (l0.length : Int)) = true := decide_eq_true c5
            clear c5
            by_cases c6 : (rd l0 x9_1) < (wrap64 (-a1))
            · rw [if_pos c6] at H
              have c6b0 : decide ((rd l0 x9_1) < (wrap64 (-a1))) = true := decide_eq_true c6
              clear c6
              obtain rfl := Option.some.inj H
              have p130 : 0 ≤ (x9_1 : Int) := of_decide_eq_true (by first | (with_reducible assumption) | assumption)
              have q130 : x9_1 < (l0.length : Int) := of_decide_eq_true (by first | (with_reducible assumption) | assumption)
              obtain ⟨ad130, e130, hx130_0⟩ := Kd.at_int HR0.out x9_1 p130 q130
              cases e130
              replace p130 := eq_true p130
              replace q130 := eq_true q130
              go_wp2
              go_ret
              exact ⟨by first | rfl | (simp; done) | (simp [*]; done), by repeat (first | exact Drawn0.refl _ | apply Drawn0.step)⟩
            · rw [if_neg c6] at H
              have c6b0 : decide ((rd l0 x9_1) < (wrap64 (-a1))) = false := decide_eq_false c6
              clear c6
              by_cases c7 : (rd l0 x9_1) > a1
              · rw [if_pos c7] at H
                have c7b0 : decide (a1 < (rd l0 x9_1)) = true := decide_eq_true c7
                clear c7
                obtain rfl := Option.some.inj H
                have p130 : 0 ≤ (x9_1 : Int) := of_decide_eq_true (by first | (with_reducible assumption) | assumption)
                have q130 : x9_1 < (l0.length : Int) := of_decide_eq_true (by first | (with_reducible assumption) | assumption)
                obtain ⟨ad130, e130, hx130_0⟩ := Kd.at_int HR0.out x9_1 p130 q130
                cases e130
                replace p130 := eq_true p130
                replace q130 := eq_true q130
                go_wp2
                go_ret
                exact ⟨by first | rfl | (simp; done) | (simp [*]; done), by repeat (first | exact Drawn0.refl _ | apply Drawn0.step)⟩
              · rw [if_neg c7] at H
                have c7b0 : decide (a1 < (rd l0 x9_1)) = false := decide_eq_false c7
                clear c7
                have H' := Aside0.mk H
                clear H
                have p130 : 0 ≤ (x9_1 : Int) := of_decide_eq_true (by first | (with_reducible assumption) | assumption)
                have q130 : x9_1 < (l0.length : Int) := of_decide_eq_true (by first | (with_reducible assumption) | assumption)
                obtain ⟨ad130, e130, hx130_0⟩ := Kd.at_int HR0.out x9_1 p130 q130
                cases e130
                replace p130 := eq_true p130
                replace q130 := eq_true q130
                go_wp2
                go_roundg k1
                case measure => have := HK1.out; omega
                case rel => exact ⟨(wrap64 (x9_1 + 1)), (by first | rfl | (simp; done) | (simp [*]; done)), H', ⟨by have := HK1.out; omega⟩, by repeat (first | exact Drawn0.refl _ | apply Drawn0.step)⟩
          · rw [if_neg c5] at H
            exact absurd H (by simp)
        · rw [if_neg c4] at H
          exact absurd H (by simp)
      · rw [if_neg c3] at H
        have c3b0 : decide (x9_1 < (l0.length : Int)) = false := decide_eq_false c3
        clear c3
        obtain rfl := Option.some.inj H
        go_wp2
        go_ret
        exact ⟨by first | rfl | (simp; done) | (simp [*]; done), by repeat (first | exact Drawn0.refl _ | apply Drawn0.step)⟩

end Go.Proofs.Ytcnpekpgghppnaa.Q
