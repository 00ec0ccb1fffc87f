/- Texts of this session (words and printed walks, merged by wip/tools/merge.py) for the statement of the claim. -/
import Derived.Test.YtihfopblmjgfaaaMEnc0
import Derived.Test.YtihfopblmjgfaaaProg
import Derived.Below
import Derived.Deep.Draws
import Derived.Deep.AppendLies
import Derived.Maps.AppendAt
import Derived.OwnWalk
import Derived.Laws.BytesArg
import Derived.Laws.MakeOwn
import Derived.Laws.OwnMore
import Derived.Deep.OwnRows
import Derived.Tactics
import Derived.Lib.ConvBytes
import Derived.Laws.Slices
import Derived.WalkKit
import Derived.KernelRfl
import Derived.RowKit3
import Derived.Deep.LoopGhost
import Derived.Deep.QuietTactic
import Derived.BigQuiet
import Derived.WideLaws
import Derived.Deep.DeepCutAuto
import Derived.Deep.CutBlock
import Derived.Deep.RegionHeld3
import Derived.Laws.Rows
import Derived.Lib.AppendStr
import Derived.ArgAppend
import Derived.Laws.IdiomCopy
import Derived.OrdersHeld
import Derived.Laws.BitsLemmas
import Derived.RowKit
import Derived.Defers
import Derived.Recover
import Derived.WalkSmall
import Derived.Laws.NewBlocks
import Derived.Deep.MidRow
/- Laws beside the print's words: make with a capacity of its own, make with a size of another kind, a cut with a capacity. -/
namespace Go.Proofs.YtihfopblmjgfaaaW.PrintWords
open Go.RowKit
set_option linter.unusedVariables false
namespace Kd
end Kd
end Go.Proofs.YtihfopblmjgfaaaW.PrintWords

namespace Go.Proofs.Ytihfopblmjgfaaa.Q
open Go.RowKit Go.Proofs.YtihfopblmjgfaaaW.PrintWords Go.Proofs.YtihfopblmjgfaaaW.PrintLast Go.Proofs.YtihfopblmjgfaaaW.PrintMore
attribute [local go_sem] max2_int min2_int max_two min_two max_three min_three max_four min_four   -- for this text's walks alone
set_option linter.unusedVariables false
set_option linter.unusedSimpArgs false



def errW : Option Int → Value
  | none => .nilIface
  | some c => .iface 0 (.int .i64 c)
theorem errW_none : errW none = .nilIface := rfl
theorem errW_some (c : Int) : errW (some c) = .iface 0 (.int .i64 c) := rfl

theorem info3 : (Try.prog.info? 3).map (fun i => (i.zero, i.size, i.bytes)) = some (some (.int .i64 0), 1, 8) := by kernel_rfl
theorem info4 : (Try.prog.info? 4).map (fun i => (i.zero, i.size, i.bytes)) = some (some (.bool false), 1, 1) := by kernel_rfl
theorem info5 : (Try.prog.info? 5).map (fun i => (i.zero, i.size, i.bytes)) = some (some (.int .u8 0), 1, 1) := by kernel_rfl
theorem info26 : (Try.prog.info? 26).map (fun i => (i.zero, i.size, i.bytes)) = some (some (.agg #[(.int .i64 0), (.slice none 0 0)]), 2, 32) := by kernel_rfl
theorem info89 : (Try.prog.info? 89).map (fun i => (i.zero, i.size, i.bytes)) = some (some (.agg #[(.int .i64 0), (.int .i64 0)]), 2, 16) := by kernel_rfl
theorem info97 : (Try.prog.info? 97).map (fun i => (i.zero, i.size, i.bytes)) = some (some (.agg #[(.int .i64 0), (.bool false), (.int .i64 0), (.int .i64 0)]), 4, 32) := by kernel_rfl
-- the values' own types
def rd_L2 (xs : List (List Int)) (i : Int) : (List Int) := xs.getD i.toNat ([] : List Int)
theorem at_L2 {w : World} {A : Option Addr} {n : Nat} {xs : List (List Int)} (h : Kd.C (Kd.slice 5 (Kd.int .u8)) w A n xs) (i : Int) (h0 : 0 ≤ i) (h1 : i < n) : ∃ ad A0 c0, A = some ad ∧ w.cell? (ad.add i.toNat) = some (.slice A0 (rd_L2 xs i).length c0) ∧ (rd_L2 xs i).length ≤ c0 ∧ (Kd.int .u8).C w A0 (rd_L2 xs i).length (rd_L2 xs i) := by
  obtain ⟨ad, c, e, _, hK, hc0⟩ := Kd.C_get h ([] : List Int) i h0 h1
  have hc : ∀ j u, c[j]? = some u → w.cell? (ad.add (i.toNat * 1 + j)) = some u := hc0
  obtain ⟨A0, c0, rfl, l0, g0⟩ := hK
  exact ⟨ad, A0, c0, e, by have hq := hc 0 _ rfl; rwa [Nat.mul_one, Nat.add_zero] at hq, l0, g0⟩

/-! #### struct type 26 -/
structure S26 where
  f0 : Int
  f1 : (List Int)
def z26 : S26 := ⟨(0 : Int), ([] : List Int)⟩
def k26 : Kd S26 := Kd.iso (Kd.pair (Kd.int .i64) (Kd.slice 5 (Kd.int .u8))) (fun x : S26 => (x.f0, x.f1))
theorem k26_open {w : World} {x : S26} {cs : List Value} (h : k26.K w x cs) : ∃ A1 c1, cs = [.int .i64 x.f0, .slice A1 x.f1.length c1] ∧ x.f1.length ≤ c1 ∧ (Kd.int .u8).C w A1 x.f1.length x.f1 := by
  obtain ⟨_, _, rfl, rfl, ⟨A1, c1, rfl, l1, g1⟩⟩ := h
  exact ⟨A1, c1, rfl, l1, g1⟩
theorem k26_openM {w : World} {base : Nat} {ok : Nat → Prop} {x : S26} {cs : List Value} (h : k26.M w base ok x cs) : ∃ v1, cs = [.int .i64 x.f0, v1] ∧ (Kd.int .u8).R 5 w base ok v1 x.f1 := by
  obtain ⟨_, _, rfl, rfl, ⟨v1, rfl, g1⟩⟩ := h
  exact ⟨v1, rfl, g1⟩
theorem k26_mk (w : World) (x : S26) {A1 : Option Addr} {c1 : Nat} (l1 : x.f1.length ≤ c1) (g1 : (Kd.int .u8).C w A1 x.f1.length x.f1) : k26.K w x [.int .i64 x.f0, .slice A1 x.f1.length c1] := ⟨[.int .i64 x.f0], [.slice A1 x.f1.length c1], rfl, rfl, ⟨A1, c1, rfl, l1, g1⟩⟩
theorem k26_mkM (w : World) (base : Nat) (ok : Nat → Prop) (x : S26) {v1 : Value} (g1 : (Kd.int .u8).R 5 w base ok v1 x.f1) : k26.M w base ok x [.int .i64 x.f0, v1] := ⟨[.int .i64 x.f0], [v1], rfl, rfl, ⟨v1, rfl, g1⟩⟩
theorem k26_openF {W : World} {ok : Nat → Prop} {x : S26} {cs : List Value} (h : Kd.FK k26 W ok x cs) : ∃ A1 c1, cs = [.int .i64 x.f0, .slice A1 x.f1.length c1] ∧ x.f1.length ≤ c1 ∧ Kd.F (Kd.int .u8) W ok A1 x.f1.length x.f1 := by
  obtain ⟨A1, c1, rfl, l1, _⟩ := k26_open (Kd.FK_now h)
  exact ⟨A1, c1, rfl, l1, (fun W' hW => by obtain ⟨A1_, c1_, he, l1_, g1_⟩ := k26_open (h W' hW); injection (Option.some.inj (show some (Value.slice A1 x.f1.length c1) = some (Value.slice A1_ x.f1.length c1_) from congrArg (fun l => l[1]?) he)) with ha_ _ _; rw [ha_]; exact g1_)⟩
theorem k26_mkF (W : World) (ok : Nat → Prop) (x : S26) {A1 : Option Addr} {c1 : Nat} (l1 : x.f1.length ≤ c1) (g1 : Kd.F (Kd.int .u8) W ok A1 x.f1.length x.f1) : Kd.FK k26 W ok x [.int .i64 x.f0, .slice A1 x.f1.length c1] := fun W2 hW => k26_mk W2 x l1 (g1 W2 hW)
def rd_T26 (xs : List S26) (i : Int) : S26 := xs.getD i.toNat z26
theorem at_T26 {w : World} {A : Option Addr} {n : Nat} {xs : List S26} (h : Kd.C k26 w A n xs) (i : Int) (h0 : 0 ≤ i) (h1 : i < n) : ∃ ad A1 c1, A = some ad ∧ w.cell? (ad.add (i.toNat * 2)) = some (.int .i64 (rd_T26 xs i).f0) ∧ w.cell? ⟨(ad.add (i.toNat * 2)).block, (ad.add (i.toNat * 2)).off + 1, none⟩ = some (.slice A1 (rd_T26 xs i).f1.length c1) ∧ (rd_T26 xs i).f1.length ≤ c1 ∧ (Kd.int .u8).C w A1 (rd_T26 xs i).f1.length (rd_T26 xs i).f1 := by
  obtain ⟨ad, c, e, _, hK, hc0⟩ := Kd.C_get h z26 i h0 h1
  have hc : ∀ j u, c[j]? = some u → w.cell? (ad.add (i.toNat * 2 + j)) = some u := hc0
  obtain ⟨A1, c1, rfl, l1, g1⟩ := k26_open hK
  exact ⟨ad, A1, c1, e, hc 0 _ rfl, by rw [← add_field _ _ 1 (by omega)]; exact hc 1 _ rfl, l1, g1⟩

/-! #### struct type 89 -/
structure S89 where
  f0 : Int
  f1 : Int
def z89 : S89 := ⟨(0 : Int), (0 : Int)⟩
def k89 : Kd S89 := Kd.iso (Kd.pair (Kd.int .i64) (Kd.int .i64)) (fun x : S89 => (x.f0, x.f1))
theorem k89_open {w : World} {x : S89} {cs : List Value} (h : k89.K w x cs) : cs = [.int .i64 x.f0, .int .i64 x.f1] := by
  obtain ⟨_, _, rfl, rfl, rfl⟩ := h
  exact rfl
theorem k89_openM {w : World} {base : Nat} {ok : Nat → Prop} {x : S89} {cs : List Value} (h : k89.M w base ok x cs) : cs = [.int .i64 x.f0, .int .i64 x.f1] := by
  obtain ⟨_, _, rfl, rfl, rfl⟩ := h
  exact rfl
theorem k89_mk (w : World) (x : S89)  : k89.K w x [.int .i64 x.f0, .int .i64 x.f1] := ⟨[.int .i64 x.f0], [.int .i64 x.f1], rfl, rfl, rfl⟩
theorem k89_mkM (w : World) (base : Nat) (ok : Nat → Prop) (x : S89)  : k89.M w base ok x [.int .i64 x.f0, .int .i64 x.f1] := ⟨[.int .i64 x.f0], [.int .i64 x.f1], rfl, rfl, rfl⟩
theorem k89_mkF (W : World) (ok : Nat → Prop) (x : S89) : Kd.FK k89 W ok x [.int .i64 x.f0, .int .i64 x.f1] := fun W2 _ => k89_mk W2 x
def rd_T89 (xs : List S89) (i : Int) : S89 := xs.getD i.toNat z89
theorem at_T89 {w : World} {A : Option Addr} {n : Nat} {xs : List S89} (h : Kd.C k89 w A n xs) (i : Int) (h0 : 0 ≤ i) (h1 : i < n) : ∃ ad , A = some ad ∧ w.cell? (ad.add (i.toNat * 2)) = some (.int .i64 (rd_T89 xs i).f0) ∧ w.cell? ⟨(ad.add (i.toNat * 2)).block, (ad.add (i.toNat * 2)).off + 1, none⟩ = some (.int .i64 (rd_T89 xs i).f1) := by
  obtain ⟨ad, c, e, _, hK, hc0⟩ := Kd.C_get h z89 i h0 h1
  have hc : ∀ j u, c[j]? = some u → w.cell? (ad.add (i.toNat * 2 + j)) = some u := hc0
  obtain rfl := k89_open hK
  exact ⟨ad, e, hc 0 _ rfl, by rw [← add_field _ _ 1 (by omega)]; exact hc 1 _ rfl⟩

/-! #### struct type 97 -/
structure S97 where
  f0 : Int
  f1 : Bool
  f2 : Int
  f3 : Int
def z97 : S97 := ⟨(0 : Int), false, (0 : Int), (0 : Int)⟩
def k97 : Kd S97 := Kd.iso (Kd.pair (Kd.int .i64) (Kd.pair Kd.bool (Kd.pair (Kd.int .i64) (Kd.int .i64)))) (fun x : S97 => (x.f0, x.f1, x.f2, x.f3))
theorem k97_open {w : World} {x : S97} {cs : List Value} (h : k97.K w x cs) : cs = [.int .i64 x.f0, .bool x.f1, .int .i64 x.f2, .int .i64 x.f3] := by
  obtain ⟨_, _, rfl, rfl, ⟨_, _, rfl, rfl, ⟨_, _, rfl, rfl, rfl⟩⟩⟩ := h
  exact rfl
theorem k97_openM {w : World} {base : Nat} {ok : Nat → Prop} {x : S97} {cs : List Value} (h : k97.M w base ok x cs) : cs = [.int .i64 x.f0, .bool x.f1, .int .i64 x.f2, .int .i64 x.f3] := by
  obtain ⟨_, _, rfl, rfl, ⟨_, _, rfl, rfl, ⟨_, _, rfl, rfl, rfl⟩⟩⟩ := h
  exact rfl
theorem k97_mk (w : World) (x : S97)  : k97.K w x [.int .i64 x.f0, .bool x.f1, .int .i64 x.f2, .int .i64 x.f3] := ⟨[.int .i64 x.f0], [.bool x.f1, .int .i64 x.f2, .int .i64 x.f3], rfl, rfl, ⟨[.bool x.f1], [.int .i64 x.f2, .int .i64 x.f3], rfl, rfl, ⟨[.int .i64 x.f2], [.int .i64 x.f3], rfl, rfl, rfl⟩⟩⟩
theorem k97_mkM (w : World) (base : Nat) (ok : Nat → Prop) (x : S97)  : k97.M w base ok x [.int .i64 x.f0, .bool x.f1, .int .i64 x.f2, .int .i64 x.f3] := ⟨[.int .i64 x.f0], [.bool x.f1, .int .i64 x.f2, .int .i64 x.f3], rfl, rfl, ⟨[.bool x.f1], [.int .i64 x.f2, .int .i64 x.f3], rfl, rfl, ⟨[.int .i64 x.f2], [.int .i64 x.f3], rfl, rfl, rfl⟩⟩⟩
theorem k97_mkF (W : World) (ok : Nat → Prop) (x : S97) : Kd.FK k97 W ok x [.int .i64 x.f0, .bool x.f1, .int .i64 x.f2, .int .i64 x.f3] := fun W2 _ => k97_mk W2 x
def rd_T97 (xs : List S97) (i : Int) : S97 := xs.getD i.toNat z97
theorem at_T97 {w : World} {A : Option Addr} {n : Nat} {xs : List S97} (h : Kd.C k97 w A n xs) (i : Int) (h0 : 0 ≤ i) (h1 : i < n) : ∃ ad , A = some ad ∧ w.cell? (ad.add (i.toNat * 4)) = some (.int .i64 (rd_T97 xs i).f0) ∧ w.cell? ⟨(ad.add (i.toNat * 4)).block, (ad.add (i.toNat * 4)).off + 1, none⟩ = some (.bool (rd_T97 xs i).f1) ∧ w.cell? ⟨(ad.add (i.toNat * 4)).block, (ad.add (i.toNat * 4)).off + 2, none⟩ = some (.int .i64 (rd_T97 xs i).f2) ∧ w.cell? ⟨(ad.add (i.toNat * 4)).block, (ad.add (i.toNat * 4)).off + 3, none⟩ = some (.int .i64 (rd_T97 xs i).f3) := by
  obtain ⟨ad, c, e, _, hK, hc0⟩ := Kd.C_get h z97 i h0 h1
  have hc : ∀ j u, c[j]? = some u → w.cell? (ad.add (i.toNat * 4 + j)) = some u := hc0
  obtain rfl := k97_open hK
  exact ⟨ad, e, hc 0 _ rfl, by rw [← add_field _ _ 1 (by omega)]; exact hc 1 _ rfl, by rw [← add_field _ _ 2 (by omega)]; exact hc 2 _ rfl, by rw [← add_field _ _ 3 (by omega)]; exact hc 3 _ rfl⟩

end Go.Proofs.Ytihfopblmjgfaaa.Q

/- Facts about a row of cells, all at once: by a program of this session (wip/tools/mini.py). -/
namespace Go.Proofs.YtihfopblmjgfaaaW.PrintWords
open Go.RowKit Go.Proofs.YtihfopblmjgfaaaW
def MK (l : List Nat) : Array Bool := (l.zipIdx.flatMap fun x => List.replicate x.1 (x.2 % 2 == 0)).toArray
theorem PUT : (∀ (t : Array Value) (d) (n : Nat) (v : Value), ({ tmps := t, defers := d } : Act).put (some n) v = { tmps := t.setIfInBounds n v, defers := d }) ∧ (∀ (a : Act) (v : Value), a.put none v = a) ∧ (∀ (l : List Value) (i : Nat) (v : Value), l.toArray.setIfInBounds i v = (l.set i v).toArray) ∧ (∀ (l : List Value) (x v : Value), (x :: l).set 0 v = v :: l) ∧ (∀ (l : List Value) (x v : Value) (n : Nat), (x :: l).set (n + 1) v = x :: l.set n v) := ⟨fun _ _ _ _ => rfl, fun _ _ => rfl, fun _ _ _ => by simp, fun _ _ _ => rfl, fun _ _ _ _ => rfl⟩
theorem PUTW : (∀ n : Int, IntKind.i64.wrap n = wrap64 n) ∧ (∀ n : Int, IntKind.i32.wrap n = wrap32 n) ∧ (∀ (t : Array Value) (d) (n : Nat) (v : Value), ({ tmps := t, defers := d } : Act).put (some n) v = { tmps := t.setIfInBounds n v, defers := d }) ∧ (∀ (a : Act) (v : Value), a.put none v = a) ∧ (∀ (l : List Value) (i : Nat) (v : Value), l.toArray.setIfInBounds i v = (l.set i v).toArray) ∧ (∀ (l : List Value) (x v : Value), (x :: l).set 0 v = v :: l) ∧ (∀ (l : List Value) (x v : Value) (n : Nat), (x :: l).set (n + 1) v = x :: l.set n v) := ⟨PrintLast.i64_w, PrintLast.i32_w, PUT⟩
end Go.Proofs.YtihfopblmjgfaaaW.PrintWords

/- Short words for the steps that the printed texts repeat: a fact carried past allocations and draws. By a program of this session. -/
namespace Go.Proofs.YtihfopblmjgfaaaW.PrintWords
open Go.RowKit Go.Proofs.YtihfopblmjgfaaaW Go.Proofs.YtihfopblmjgfaaaW.PrintLast Go.Proofs.YtihfopblmjgfaaaW.PrintMore
theorem upR {P Q : Prop} (h : P) (f : P → Q := by intro h_; (with_reducible repeat (first | apply Kd.R_alloc | apply Kd.R_drewN | apply Kd.R_drew)); exact h_) : Q := f h
theorem upN {P Q : Prop} (h : P) (f : P → Q := by intro h_; (with_reducible repeat (first | apply Kd.N_alloc | apply Kd.N_drewN | apply Kd.N_drew)); exact h_) : Q := f h
theorem upV {P Q : Prop} (h : P) (f : P → Q := by intro h_; (with_reducible repeat (first | apply Kd.V_alloc | apply Kd.V_drewN | apply Kd.V_drew)); exact h_) : Q := f h
theorem upC {P Q : Prop} (h : P) (f : P → Q := by intro h_; repeat (first | (with_reducible exact h_) | (with_reducible refine Kd.C_alloc ?_ _) | (with_reducible refine Kd.C_drewN ?_ _) | (with_reducible refine Kd.C_drew ?_) | exact h_)) : Q := f h
theorem upK {P Q : Prop} (h : P) (f : P → Q := by intro h_; (with_reducible repeat (first | refine blk_drewN ?_ _ | refine blk_drew ?_ | refine blk_alloc ?_ _)); exact h_) : Q := f h
theorem upB {P Q : Prop} (h : P) (f : P → Q := by intro h_; repeat (first | (with_reducible first | exact h_ | apply below_alloc | apply pw_below_drewN | apply below_drew1 | refine below_set ?_ (Aside0.out (by assumption))) | exact h_)) : Q := f h
theorem upL {P : Prop} (h : P := by (try simp only [List.map_toArray, List.map_cons, List.map_nil]); first | done | rfl | (simp only [List.length_drop, List.length_take]; rfl)) : P := h
end Go.Proofs.YtihfopblmjgfaaaW.PrintWords

/- Short words for the steps of a region that may be taken in any order. By a program of this session. -/
namespace Go.Proofs.YtihfopblmjgfaaaW.PrintWords
open Go.RowKit Go.Proofs.YtihfopblmjgfaaaW Go.Proofs.YtihfopblmjgfaaaW.PrintLast
theorem AS {p : Prop} (h : p) : Aside0 p := ⟨h⟩
section
variable {P : Program} {ops : Array Oper} {Q : Exit → Act → World → Prop} {md : Region.Mode} {S : World → Prop} {ds : List Nat} {l : Array Bool} {a : Act} {w : World} {oi : Oper} {fuel : Nat} {T : Bool × List (List Nat × List Nat)}
theorem puX (i n : Nat) (l' : Array Bool) (hT : rtab md ops = T) {v : Value} {a' : Act} (h : wpAnyLast P md ops Q S ds fuel l' a' w)
    (hi : ops[i]? = some oi := by rfl) (hN : oi.dst = some n := by rfl) (hc : anyT T l.toList l'.toList i = true := by kernel_rfl)
    (hQ : ∀ c a w, Q (.panic c) (a.put oi.dst v) w → Q (.panic c) a w := by exact fun _ _ _ h => h)
    (hy : Yields P ops oi v a := by refine Or.inl ⟨by rfl, ?_⟩; intro w'; go_simp; with_reducible rfl)
    (ha : a.put (some n) v = a' := by simp only [PUTW]; rfl) : wpAnyLast P md ops Q S ds (fuel + 1) l a w := pure_ l' hi hN (any_of hT hc) hQ hy ha h
theorem puU (i n : Nat) (l' : Array Bool) (hT : rtab md ops = T) {a' : Act} (h : wpAnyLast P md ops Q S ds fuel l' a' w)
    (hi : ops[i]? = some oi := by rfl) (hN : oi.dst = some n := by rfl) (hc : anyT T l.toList l'.toList i = true := by kernel_rfl)
    (hQ : ∀ c a w, Q (.panic c) (a.put oi.dst undef) w → Q (.panic c) a w := by exact fun _ _ _ h => h)
    (hy : Yields P ops oi undef a := by exact Or.inr ⟨rfl, rfl⟩)
    (ha : a.put (some n) undef = a' := by simp only [PUTW]; rfl) : wpAnyLast P md ops Q S ds (fuel + 1) l a w := pure_ l' hi hN (any_of hT hc) hQ hy ha h
theorem taX (i n : Nat) (l' : Array Bool) (hT : rtab md ops = T) {B : List Nat} (hB : waitsOk T.2 B = true) (hS : S w) {v : Value} {a' : Act} (h : wpAnyLast P md ops Q S ds fuel l' a' w)
    (hi : ops[i]? = some oi := by rfl) (hN : oi.dst = some n := by rfl) (hc : takeW T B ds l.toList l'.toList i = true := by kernel_rfl)
    (hQ : ∀ c a w, Q (.panic c) (a.put oi.dst v) w → Q (.panic c) a w := by exact fun _ _ _ h => h)
    (hy : YieldsIf P ops S oi v a := by refine Or.inl ⟨by rfl, ?_⟩; intro w' hS_; (repeat (have hs_ := And.left hS_; replace hS_ := And.right hS_)); go_simp; with_reducible rfl)
    (ha : a.put (some n) v = a' := by simp only [PUTW]; rfl) : wpAnyLast P md ops Q S ds (fuel + 1) l a w := take_ l' hi hN (take_ofW hT hB hc) hQ hy hS ha h
theorem noX {a' : Act} (h : wpAnyLast P md ops Q S ds fuel l a' w) (ha : a = a' := by (show Act.put _ (some _) _ = _); simp only [PUTW]; rfl) : wpAnyLast P md ops Q S ds fuel l a w := norm_ ha h
theorem onX (i n : Nat) (l' : Array Bool) (hT : rtab md ops = T)
    (h : ∀ K : Act → World → Prop, Shut (∀ a' w', S w' → (S w' → wpAnyLast P md ops Q S ds fuel l' a' w') → K a' w') → if Region.wanted oi (yielded ops a.tmps) = true then Oper.wp P oi a w K Q else K (a.put (some n) undef) w)
    (hi : ops[i]? = some oi := by rfl) (hN : oi.dst = some n := by rfl) (hc : (readyT T.2 l.toList == [i] && l.toList.set i true == l'.toList) = true := by kernel_rfl) (hd : i ∉ ds := by decide) :
    wpAnyLast P md ops Q S ds (fuel + 1) l a w := one_ l' hi hN (one_of hT hc) hd h
end
theorem bc {w : World} {g : Nat} {t : TypeId} {cs : Array Value} (h : Aside0 (w.heap[g]? = some (.cells cs t (0, 0)))) (i : Nat) {v : Value} (e : cs[i]? = some v := by rfl) : w.cell? ⟨g, i, none⟩ = some v := (blk_cell h.out i).trans e
theorem hc {w W : World} (h : Aside0 (Below w.heap.size w W)) {p : Addr} {v : Value} (e : w.cell? p = some v) : W.cell? p = some v := (h.out.cell (World.block_lt_of_cell? w _ e)).trans e
abbrev ce (w : World) (g i : Nat) (v : Value) : Prop := w.cell? ⟨g, i, none⟩ = some v
end Go.Proofs.YtihfopblmjgfaaaW.PrintWords

/- Printed walk, shortened (wip/tools/unmerge.py). -/
namespace Go.Proofs.Ytihfopblmjgfaaa.Q
open Go.RowKit Go.Proofs.YtihfopblmjgfaaaW.PrintWords Go.Proofs.YtihfopblmjgfaaaW.PrintLast Go.Proofs.YtihfopblmjgfaaaW.PrintMore
attribute [local go_sem] max2_int min2_int max_two min_two max_three min_three max_four min_four   -- for this text's walks alone
set_option linter.unusedVariables false
set_option linter.unusedSimpArgs false

/-! ### marker_ReadUint: function 52 -/
mutual
def marker_ReadUint.j0 : Nat → List Int → Int → Int → Bool → Option (Int × Int)
  | 0, _, _, _, _ => none
  | k + 1, x0, x1, x2, x26 => if x26 = true then (some (0, 2)) else (if (wrap64 ((x0.length : Int) - x1)) < x2 then (some (0, 7)) else (if 0 ≤ x1 then (if x1 ≤ (wrap64 (x1 + x2)) then (if (wrap64 (x1 + x2)) ≤ (x0.length : Int) then (marker_ReadUint.l0 k 0 ((x0.take ((wrap64 (x1 + x2)) : Int).toNat).drop (x1 : Int).toNat) (((x0.take ((wrap64 (x1 + x2)) : Int).toNat).drop (x1 : Int).toNat).length : Int) 0) else (none)) else (none)) else (none)))
def marker_ReadUint.l0 : Nat → Int → List Int → Int → Int → Option (Int × Int)
  | 0, _, _, _, _ => none
  | k + 1, x8, x38, x39, x40 => if x40 < x39 then (if 0 ≤ x40 then (if x40 < (x38.length : Int) then (marker_ReadUint.l0 k (Go.bits .or .i64 (wrap64 (x8 * 256)) (wrap64 (rd x38 x40))) x38 x39 (wrap64 (x40 + 1))) else (none)) else (none)) else (some (x8, 0))
end
def marker_ReadUint.f (k : Nat) (l0 : List Int) (a1 : Int) (a2 : Int) : Option (Int × Int) := if a2 < 1 then (marker_ReadUint.j0 k l0 a1 a2 true) else (if a2 > 4 then (marker_ReadUint.j0 k l0 a1 a2 true) else (if a1 < 0 then (marker_ReadUint.j0 k l0 a1 a2 true) else (marker_ReadUint.j0 k l0 a1 a2 (decide (a1 > (l0.length : Int))))))
theorem marker_ReadUint.mono_l : ∀ k, (∀ y0 y1 y2 y3, LeO (marker_ReadUint.j0 k y0 y1 y2 y3) (marker_ReadUint.j0 (k + 1) y0 y1 y2 y3)) ∧ (∀ y0 y1 y2 y3, LeO (marker_ReadUint.l0 k y0 y1 y2 y3) (marker_ReadUint.l0 (k + 1) y0 y1 y2 y3))
  | 0 => ⟨fun _ _ _ _ r h => by simp [marker_ReadUint.j0] at h, fun _ _ _ _ r h => by simp [marker_ReadUint.l0] at h⟩
  | k + 1 => by
    obtain ⟨ih0, ih1⟩ := marker_ReadUint.mono_l k
    refine ⟨?_, ?_⟩
    · intro y0 y1 y2 y3
      unfold marker_ReadUint.j0
      repeat' first
      | (with_reducible exact ih0 _ _ _ _)
      | (with_reducible exact ih1 _ _ _ _)
      | (with_reducible exact LeO.refl _)
      | (with_reducible exact LeO.none _)
      | (with_reducible refine LeO.ite ?_ ?_)
      | (with_reducible refine LeO.bind ?_ (fun _ => ?_))
      | exact ih0 _ _ _ _
      | exact ih1 _ _ _ _
      | exact LeO.none _
      | refine LeO.ite ?_ ?_
      | refine LeO.bind ?_ (fun _ => ?_)
    · intro y0 y1 y2 y3
      unfold marker_ReadUint.l0
      repeat' first
      | (with_reducible exact ih0 _ _ _ _)
      | (with_reducible exact ih1 _ _ _ _)
      | (with_reducible exact LeO.refl _)
      | (with_reducible exact LeO.none _)
      | (with_reducible refine LeO.ite ?_ ?_)
      | (with_reducible refine LeO.bind ?_ (fun _ => ?_))
      | exact ih0 _ _ _ _
      | exact ih1 _ _ _ _
      | exact LeO.none _
      | refine LeO.ite ?_ ?_
      | refine LeO.bind ?_ (fun _ => ?_)
theorem marker_ReadUint.mono : ∀ a0 a1 a2 k, LeO (marker_ReadUint.f k a0 a1 a2) (marker_ReadUint.f (k + 1) a0 a1 a2) := by
  intro a0 a1 a2 k
  obtain ⟨ih0, ih1⟩ := marker_ReadUint.mono_l k
  unfold marker_ReadUint.f
  repeat' first
      | (with_reducible exact ih0 _ _ _ _)
      | (with_reducible exact ih1 _ _ _ _)
      | (with_reducible exact LeO.refl _)
      | (with_reducible exact LeO.none _)
      | (with_reducible refine LeO.ite ?_ ?_)
      | (with_reducible refine LeO.bind ?_ (fun _ => ?_))
      | exact ih0 _ _ _ _
      | exact ih1 _ _ _ _
      | exact LeO.none _
      | refine LeO.ite ?_ ?_
      | refine LeO.bind ?_ (fun _ => ?_)
set_option maxHeartbeats 8000000 in
set_option maxRecDepth 100000 in
theorem marker_ReadUint.calls (k : Nat) (A0 : Option Addr) (c0 : Nat) (l0 : List Int) (a1 : Int) (a2 : Int) (r1 : Int) (r2 : Int) (w : World) (hr0 : Kd.C (Kd.int .u8) w A0 l0.length l0) (hc0 : l0.length ≤ c0) (h : marker_ReadUint.f k l0 a1 a2 = some (r1, r2)) :
    Calls Try.prog 52 #[.slice A0 l0.length c0, .int .i64 a1, .int .i64 a2] w fun e w' => e = .returned (.tuple #[.int .i64 r1, .int .i64 r2]) ∧ Drawn0 w w' := by
  have HR0 := Aside0.mk hr0
  have HC0 := Aside0.mk hc0
  clear hr0 hc0
  have H : (if a2 < 1 then (marker_ReadUint.j0 k l0 a1 a2 true) else (if a2 > 4 then (marker_ReadUint.j0 k l0 a1 a2 true) else (if a1 < 0 then (marker_ReadUint.j0 k l0 a1 a2 true) else (marker_ReadUint.j0 k l0 a1 a2 (decide (a1 > (l0.length : Int))))))) = some (r1, r2) := h
  clear h
  have HC4 := Aside0.mk H
  clear H
  go_enter Try.func52, Try.ntmps52
  go_upto_region 1 with (fail)
  go_cut [26] (fun v26 wc => ∃ (kq : Nat) (x26_3 : Bool), v26 = .bool x26_3 ∧ Aside0 (marker_ReadUint.j0 kq l0 a1 a2 x26_3 = some (r1, r2)) ∧ Aside0 (kq ≤ k) ∧ Drawn0 w wc)
  case first =>
    have H := HC4.out
    clear HC4
    by_cases c5 : a2 < 1
    · rw [if_pos c5] at H
      have c5b0 : decide (a2 < 1) = true := decide_eq_true c5
      clear c5
      (first | rw [c5b0] | (simp only [i64_w, i32_w]; rw [c5b0]) | skip)
      have H' := Aside0.mk H
      clear H
      go_wp2
      go_meet
      case rel => exact ⟨_, (true), (by first | rfl | (simp; done) | (simp [*]; done)), H', ⟨by first | omega | exact Nat.le_refl _⟩, by repeat (first | exact Drawn0.refl _ | apply Drawn0.step)⟩
    · rw [if_neg c5] at H
      have c5b0 : decide (a2 < 1) = false := decide_eq_false c5
      clear c5
      (first | rw [c5b0] | (simp only [i64_w, i32_w]; rw [c5b0]) | skip)
      by_cases c6 : a2 > 4
      · rw [if_pos c6] at H
        have c6b0 : decide (4 < a2) = true := decide_eq_true c6
        clear c6
        have H' := Aside0.mk H
        clear H
        go_wp2
        go_meet
        case rel => exact ⟨_, (true), (by first | rfl | (simp; done) | (simp [*]; done)), H', ⟨by first | omega | exact Nat.le_refl _⟩, by repeat (first | exact Drawn0.refl _ | apply Drawn0.step)⟩
      · rw [if_neg c6] at H
        have c6b0 : decide (4 < a2) = false := decide_eq_false c6
        clear c6
        by_cases c7 : a1 < 0
        · rw [if_pos c7] at H
          have c7b0 : decide (a1 < 0) = true := decide_eq_true c7
          clear c7
          have H' := Aside0.mk H
          clear H
          go_wp2
          go_meet
          case rel => exact ⟨_, (true), (by first | rfl | (simp; done) | (simp [*]; done)), H', ⟨by first | omega | exact Nat.le_refl _⟩, by repeat (first | exact Drawn0.refl _ | apply Drawn0.step)⟩
        · rw [if_neg c7] at H
          have c7b0 : decide (a1 < 0) = false := decide_eq_false c7
          clear c7
          have H' := Aside0.mk H
          clear H
          go_wp2
          go_meet
          case rel => exact ⟨_, (decide (a1 > (l0.length : Int))), (by first | rfl | (simp; done) | (simp [*]; done)), H', ⟨by first | omega | exact Nat.le_refl _⟩, by repeat (first | exact Drawn0.refl _ | apply Drawn0.step)⟩
  case rest =>
    clear HC4
    try clear p2
    try clear c5
    try clear c5b0
    try clear c6
    try clear c6b0
    try clear c7
    try clear c7b0
    obtain ⟨kq, x26_3, rfl, HA, HJ3, ⟨mc3, rfl⟩⟩ := hcut
    cases kq with
    | zero => exact absurd HA.out (by simp [marker_ReadUint.j0])
    | succ kj3 =>
      have H := HA.out
      clear HA
      simp only [marker_ReadUint.j0] at H
      by_cases c8 : x26_3 = true
      · subst c8
        have H1 : (some (0, 2)) = some (r1, r2) := by rw [if_pos rfl] at H; exact H
        clear H
        have H := H1
        clear H1
        simp only [Option.some.injEq, Prod.mk.injEq] at H
        obtain ⟨rfl, rfl⟩ := H
        go_wp2
        go_ret2
        exact ⟨by first | rfl | (simp; done) | (simp [*]; done), by repeat (first | exact Drawn0.refl _ | apply Drawn0.step)⟩
      · replace c8 := Bool.eq_false_iff.mpr c8
        subst c8
        have H1 : (if (wrap64 ((l0.length : Int) - a1)) < a2 then (some (0, 7)) else (if 0 ≤ a1 then (if a1 ≤ (wrap64 (a1 + a2)) then (if (wrap64 (a1 + a2)) ≤ (l0.length : Int) then (marker_ReadUint.l0 kj3 0 ((l0.take ((wrap64 (a1 + a2)) : Int).toNat).drop (a1 : Int).toNat) (((l0.take ((wrap64 (a1 + a2)) : Int).toNat).drop (a1 : Int).toNat).length : Int) 0) else (none)) else (none)) else (none))) = some (r1, r2) := by rw [if_neg (show ¬ (false = true) by decide)] at H; exact H
        clear H
        have H := H1
        clear H1
        by_cases c9 : (wrap64 ((l0.length : Int) - a1)) < a2
        · rw [if_pos c9] at H
          have c9b0 : decide ((wrap64 ((l0.length : Int) - a1)) < a2) = true := decide_eq_true c9
          clear c9
          simp only [Option.some.injEq, Prod.mk.injEq] at H
          obtain ⟨rfl, rfl⟩ := H
          go_wp2
          go_ret2
          exact ⟨by first | rfl | (simp; done) | (simp [*]; done), by repeat (first | exact Drawn0.refl _ | apply Drawn0.step)⟩
        · rw [if_neg c9] at H
          have c9b0 : decide ((wrap64 ((l0.length : Int) - a1)) < a2) = false := decide_eq_false c9
          clear c9
          by_cases c10 : 0 ≤ a1
          · rw [if_pos c10] at H
            have c10b0 := eq_true c10
            have c10b1 : decide (0 ≤ a1) = true := decide_eq_true c10
            clear c10
            by_cases c11 : a1 ≤ (wrap64 (a1 + a2))
            · rw [if_pos c11] at H
              have c11b0 := eq_true c11
              have c11b1 : decide (a1 ≤ (wrap64 (a1 + a2))) = true := decide_eq_true c11
              by_cases c12 : (wrap64 (a1 + a2)) ≤ (l0.length : Int)
              · rw [if_pos c12] at H
                have c12b0 := eq_true c12
                have c12b1 : decide ((wrap64 (a1 + a2)) ≤ (l0.length : Int)) = true := decide_eq_true c12
                have H' := Aside0.mk H
                clear H
                obtain ⟨i013, hi013, _, hsz13, _⟩ := info_parts info5
                obtain ⟨A13, hcut13, hA13, hC13⟩ := print_mid_of (P := Try.prog) (Value.int .u8) 0 24 5 .i64 .i64 Try.underlying24 hi013 hsz13 A0 c0 l0 a1 (wrap64 (a1 + a2)) (of_decide_eq_true (by first | (with_reducible assumption) | assumption)) (by first | omega | exact of_decide_eq_true (by first | (with_reducible assumption) | assumption)) (of_decide_eq_true (by first | (with_reducible assumption) | assumption)) HC0.out
                (try (have HX13 := Aside0.mk (show ((l0.take ((wrap64 (a1 + a2)) : Int).toNat).drop (a1 : Int).toNat).length = ((wrap64 (a1 + a2)) : Int).toNat - (a1 : Int).toNat from (by have h_ : (wrap64 (a1 + a2) : Int) ≤ (l0.length : Int) := of_decide_eq_true (by first | (with_reducible assumption) | assumption); rw [List.length_drop, List.length_take]; omega))))
                have HR289 := Aside0.mk (Kd.C_of_reads (h1 := fun _ => rfl) (hA13 _ (Kd.reads_of_C HR0.out)))
                have HC289 := Aside0.mk hC13
                clear hA13 hC13 hi013 hsz13
                go_wp2
                go_loopg [8, 40] kj3 (fun kq v8 v40 w' => ∃ (x8_2 : Int) (x40_2 : Int), v8 = .int .i64 x8_2 ∧ v40 = .int .i64 x40_2 ∧ Aside0 (marker_ReadUint.l0 kq x8_2 ((l0.take ((wrap64 (a1 + a2)) : Int).toNat).drop (a1 : Int).toNat) (((l0.take ((wrap64 (a1 + a2)) : Int).toNat).drop (a1 : Int).toNat).length : Int) x40_2 = some (r1, r2)) ∧ Aside0 (kq ≤ kj3) ∧ Drawn0 w w')
                case atStart => exact ⟨(0), (0), (by first | rfl | (simp; done) | (simp [*]; done)), (by first | rfl | (simp; done) | (simp [*]; done)), H', ⟨Nat.le_refl _⟩, by repeat (first | exact Drawn0.refl _ | apply Drawn0.step)⟩
                case round =>
                  clear H'
                  try clear c1
                  try clear p2
                  try clear c3
                  try clear c5
                  try clear c5b0
                  try clear c6
                  try clear c6b0
                  try clear p6
                  try clear c7
                  try clear c7b0
                  try clear c8
                  try clear c9
                  try clear c9b0
                  try clear c10
                  try clear c10b0
                  try clear c10b1
                  try clear c11
                  try clear c11b0
                  try clear c11b1
                  try clear c12
                  try clear c12b0
                  try clear c12b1
                  try clear p2
                  obtain ⟨x8_2, x40_2, rfl, rfl, HA, HK2, ⟨m2, rfl⟩⟩ := hrel
                  cases gk with
                  | zero => exact absurd HA.out (by simp [marker_ReadUint.l0])
                  | succ k2 =>
                    have H := HA.out
                    clear HA
                    simp only [marker_ReadUint.l0] at H
                    by_cases c14 : x40_2 < (((l0.take ((wrap64 (a1 + a2)) : Int).toNat).drop (a1 : Int).toNat).length : Int)
                    · rw [if_pos c14] at H
                      have c14b0 : decide (x40_2 < (((l0.take ((wrap64 (a1 + a2)) : Int).toNat).drop (a1 : Int).toNat).length : Int)) = true := decide_eq_true c14
                      (try (have c14b9 : decide (x40_2 < ((((wrap64 (a1 + a2)) : Int).toNat - (a1 : Int).toNat : Nat) : Int)) = true := (by rw [← HX13.out]; exact c14b0)))
                      clear c14
                      by_cases c15 : 0 ≤ x40_2
                      · rw [if_pos c15] at H
                        have c15b0 : decide (0 ≤ x40_2) = true := decide_eq_true c15
                        clear c15
                        by_cases c16 : x40_2 < (((l0.take ((wrap64 (a1 + a2)) : Int).toNat).drop (a1 : Int).toNat).length : Int)
                        · rw [if_pos c16] at H
                          have c16b0 : decide (x40_2 < (((l0.take ((wrap64 (a1 + a2)) : Int).toNat).drop (a1 : Int).toNat).length : Int)) = true := decide_eq_true c16
                          (try (have c16b9 : decide (x40_2 < ((((wrap64 (a1 + a2)) : Int).toNat - (a1 : Int).toNat : Nat) : Int)) = true := (by rw [← HX13.out]; exact c16b0)))
                          clear c16
                          have H' := Aside0.mk H
                          clear H
                          have p290 : 0 ≤ (x40_2 : Int) := of_decide_eq_true (by first | (with_reducible assumption) | assumption)
                          have q290 : x40_2 < (((l0.take ((wrap64 (a1 + a2)) : Int).toNat).drop (a1 : Int).toNat).length : Int) := of_decide_eq_true (by first | (with_reducible assumption) | assumption)
                          obtain ⟨ad290, e290, hx290_0⟩ := Kd.at_int HR289.out x40_2 p290 q290
                          cases e290
                          replace p290 := eq_true p290
                          replace q290 := eq_true q290
                          (try (have q290x : (x40_2 < ((((wrap64 (a1 + a2)) : Int).toNat - (a1 : Int).toNat : Nat) : Int)) = True := (by rw [← HX13.out]; exact q290)))
                          go_wp2
                          go_roundg k2
                          case measure => have := HJ3.out; have := HK2.out; omega
                          case rel => exact ⟨(Go.bits .or .i64 (wrap64 (x8_2 * 256)) (wrap64 (rd ((l0.take ((wrap64 (a1 + a2)) : Int).toNat).drop (a1 : Int).toNat) x40_2))), (wrap64 (x40_2 + 1)), (by first | rfl | (simp; done) | (simp [*]; done)), (by first | rfl | (simp; done) | (simp [*]; done)), H', ⟨by have := HJ3.out; have := HK2.out; omega⟩, by repeat (first | exact Drawn0.refl _ | apply Drawn0.step)⟩
                        · rw [if_neg c16] at H
                          exact absurd H (by simp)
                      · rw [if_neg c15] at H
                        exact absurd H (by simp)
                    · rw [if_neg c14] at H
                      have c14b0 : decide (x40_2 < (((l0.take ((wrap64 (a1 + a2)) : Int).toNat).drop (a1 : Int).toNat).length : Int)) = false := decide_eq_false c14
                      (try (have c14b9 : decide (x40_2 < ((((wrap64 (a1 + a2)) : Int).toNat - (a1 : Int).toNat : Nat) : Int)) = false := (by rw [← HX13.out]; exact c14b0)))
                      clear c14
                      simp only [Option.some.injEq, Prod.mk.injEq] at H
                      obtain ⟨rfl, rfl⟩ := H
                      go_wp2
                      go_ret2
                      exact ⟨by first | rfl | (simp; done) | (simp [*]; done), by repeat (first | exact Drawn0.refl _ | apply Drawn0.step)⟩
              · rw [if_neg c12] at H
                exact absurd H (by simp)
            · rw [if_neg c11] at H
              exact absurd H (by simp)
          · rw [if_neg c10] at H
            exact absurd H (by simp)

end Go.Proofs.Ytihfopblmjgfaaa.Q

/- The reader's number: what (*reader).uint does, a return or a panic. -/
namespace Go.Proofs.Ytihfopblmjgfaaa.Q
open Go.RowKit Go.Proofs.YtihfopblmjgfaaaW.PrintWords Go.Proofs.YtihfopblmjgfaaaW.PrintLast Go.Proofs.YtihfopblmjgfaaaW.PrintMore
set_option linter.unusedVariables false
set_option linter.unusedSimpArgs false

/-- How one reading ends: the number, or the failure. -/
def UintPost (b : Nat) (p n v e : Int) (w : World) : Ending → World → Prop := fun en w' =>
  (e = 0 ∧ en = .returned (.int .i64 v) ∧ Drawn0 (w.setCell ⟨b, 1, none⟩ (.int .i64 (wrap64 (p + n)))) w') ∨ (e ≠ 0 ∧ en = .panicked [{ v := .iface 99 (.agg #[.int .i64 e]), recovered := false }] ∧ Drawn0 w w')

set_option maxHeartbeats 8000000 in
set_option maxRecDepth 100000 in
theorem reader_uint.calls (k : Nat) (b : Nat) (A : Option Addr) (c : Nat) (l : List Int) (p n v e : Int) (w : World) (hblk : w.heap[b]? = some (.cells #[.slice A l.length c, .int .i64 p] 102 (0, 0)))
    (hr : Kd.C (Kd.int .u8) w A l.length l) (hc : l.length ≤ c) (h : marker_ReadUint.f k l p n = some (v, e)) :
    Calls Try.prog 49 #[.pointer (some ⟨b, 0, none⟩), .int .i64 n] w (UintPost b p n v e w) := by
  have hb : w.cell? ⟨b, 0, none⟩ = some (.slice A l.length c) := (blk_cell hblk 0).trans rfl
  have hp : w.cell? ⟨b, 1, none⟩ = some (.int .i64 p) := (blk_cell hblk 1).trans rfl
  have hz := blk_frozen hblk 1
  clear hblk
  have HR := Aside0.mk hr
  have HC := Aside0.mk hc
  have H := Aside0.mk h
  clear hr hc h
  go_enter Try.func49, Try.ntmps49
  go_wp2_with (first | (go_at_call 52; (with_reducible refine (marker_ReadUint.calls k _ _ l p n v e _ ?side1 ?side2 H.out).mono ?_); (case side1 => repeat (first | exact HR.out | (with_reducible refine Kd.C_alloc ?_ _) | (with_reducible refine Kd.C_drewN ?_ _) | (with_reducible refine Kd.C_drew ?_))); (case side2 => exact HC.out); rintro e w' ⟨rfl, ⟨nd, rfl⟩⟩; (try first | exact ⟨rfl, _, World.drewN_drewN _ _ _⟩ | exact ⟨rfl, _, Eq.trans (World.drewN_drewN _ _ _) (congrArg (World.drewN _) (Nat.add_assoc _ _ _))⟩)))
  repeat (go_quiet (first | (go_at_call 52; (with_reducible refine (marker_ReadUint.calls k _ _ l p n v e _ ?side1 ?side2 H.out).mono ?_); (case side1 => repeat (first | exact HR.out | (with_reducible refine Kd.C_alloc ?_ _) | (with_reducible refine Kd.C_drewN ?_ _) | (with_reducible refine Kd.C_drew ?_))); (case side2 => exact HC.out); rintro e w' ⟨rfl, ⟨nd, rfl⟩⟩; (try first | exact ⟨rfl, _, World.drewN_drewN _ _ _⟩ | exact ⟨rfl, _, Eq.trans (World.drewN_drewN _ _ _) (congrArg (World.drewN _) (Nat.add_assoc _ _ _))⟩))))
  by_cases he : e = 0
  · subst he
    go_wp2
    go_ret
    exact .inl ⟨rfl, rfl, ⟨⟨nq, rfl⟩⟩⟩
  · have he' : decide (e = 0) = false := decide_eq_false he
    go_wp2
    exact ⟨rfl, .inr ⟨he, rfl, ⟨⟨nq, rfl⟩⟩⟩⟩

set_option maxHeartbeats 8000000 in
set_option maxRecDepth 100000 in
/-- The deferred closure of parse in a frame that panics with a failure: it is recovered, the named result is laid. -/
theorem parse_catch (g : Nat) (x e : Int) (older : List PanicEntry) (w : World) (hg : w.heap[g]? = some (.cells #[.int .i64 x] 29 (0, 0))) :
    CallsD Try.prog 63 #[.pointer (some ⟨g, 0, none⟩)] (.panicking ({ v := .iface 99 (.agg #[.int .i64 e]), recovered := false } :: older)) w fun en u' w' =>
      en = .returned (.tuple #[]) ∧ u' = .panicking ({ v := .iface 99 (.agg #[.int .i64 e]), recovered := true } :: older) ∧ w' = (w.setCell ⟨g, 0, none⟩ (.int .i64 e)).alloc (.cells #[.int .i64 e] 99) := by
  refine callsD_of_wpS Try.func63 rfl fun c₀ cs hu => ?_
  apply wpS_seq
  apply wpS_region
  simp [wpOpsS, go_sem, recoverD, hu, Try.ntmps63, Exit.thenS]
  apply wpS_seq
  apply wpS_region
  simp [wpOpsS, go_sem, Exit.thenS]
  refine wpS_cond (t := true) (by simp [Act.eval, Array.replicate]) ?_
  simp only [if_true]
  refine wpS_of_wp ?_
  simp only [Array.replicate_succ, Array.replicate_zero, List.push_toArray, List.append_toArray, List.nil_append, List.cons_append, List.setIfInBounds_toArray, List.set]
  have hlt := blk_lt hg
  have hc : w.cell? ⟨g, 0, none⟩ = some (.int .i64 x) := (blk_cell hg 0).trans rfl
  have hz := blk_frozen hg 0
  have hta : ∀ (e : Int) (w : World), (Instr.typeAssert (.iface 99 (.agg #[.int .i64 e])) 20 99 true).run Try.prog w = .ok (.tuple #[.agg #[.int .i64 e], .bool true]) w := fun _ _ => by kernel_rfl
  have hnot : ∀ (x : Bool) (w : World), (Op.unary .not (.bool x)).run Try.prog w = .ok (.bool (!x)) w := fun _ _ => rfl
  go_wp2
  exact ⟨rfl, _, rfl, _, results_none rfl _ _ _, rfl, rfl, rfl⟩
theorem parse_idle (g : Nat) (w : World) :
    CallsD Try.prog 63 #[.pointer (some ⟨g, 0, none⟩)] .returning w fun en u' w' => en = .returned (.tuple #[]) ∧ u' = .returning ∧ w' = w := by
  refine callsD_of_wpS Try.func63 rfl fun c₀ cs hu => ?_
  apply wpS_seq
  apply wpS_region
  simp [wpOpsS, go_sem, recoverD, hu, Try.ntmps63, Exit.thenS]
  apply wpS_seq
  apply wpS_region
  simp [wpOpsS, go_sem, Exit.thenS]
  refine wpS_cond (t := false) (by simp [Act.eval, Array.replicate]) ?_
  simp only [Bool.false_eq_true, if_false]
  refine wpS_of_wp (wp_skip ?_)
  cases c₀
  simp_all [bodyPostS, results, Try.results63]

/-- Nothing but the blocks of S, and new ones, has changed. -/
structure Only (S : Nat → Prop) (w w' : World) : Prop where
  os : w'.os = w.os
  tape : w'.tape = w.tape
  output : w'.output = w.output
  size : w.heap.size ≤ w'.heap.size
  block : ∀ k, k < w.heap.size → ¬ S k → w'.heap[k]? = w.heap[k]?
theorem drawn_blk {w w' : World} (h : Drawn0 w w') {g : Nat} {o : Obj} (hb : w.heap[g]? = some o) : w'.heap[g]? = some o := blk_below hb h.below
namespace Only
variable {S T : Nat → Prop} {w w1 w2 : World}
theorem refl (S : Nat → Prop) (w : World) : Only S w w := ⟨rfl, rfl, rfl, Nat.le_refl _, fun _ _ _ => rfl⟩
theorem trans (h : Only S w w1) (k : Only S w1 w2) : Only S w w2 :=
  ⟨k.os.trans h.os, k.tape.trans h.tape, k.output.trans h.output, Nat.le_trans h.size k.size, fun j hj hs => (k.block j (Nat.lt_of_lt_of_le hj h.size) hs).trans (h.block j hj hs)⟩
theorem mono (h : Only S w w1) (hs : ∀ k, k < w.heap.size → S k → T k) : Only T w w1 := ⟨h.os, h.tape, h.output, h.size, fun j hj ht => h.block j hj (fun hk => ht (hs j hj hk))⟩
theorem of_below (h : Below w.heap.size w w1) : Only S w w1 := ⟨h.os, h.tape, h.output, h.size, fun j hj _ => h.block j hj⟩
theorem of_drawn (h : Drawn0 w w1) : Only S w w1 := of_below h.below
theorem alloc (h : Only S w w1) (o : Obj) : Only S w (w1.alloc o) := h.trans (of_below (below_alloc (Below.refl _ _) o))
theorem drewN (h : Only S w w1) (n : Nat) : Only S w (w1.drewN n) := h.trans (of_below (pw_below_drewN (Below.refl _ _) n))
theorem setCell (h : Only S w w1) {g : Nat} (hg : S g) (i : Nat) (u : Value) : Only S w (w1.setCell ⟨g, i, none⟩ u) := by
  exact h.trans ⟨rfl, rfl, rfl, by simp [World.setCell], fun j hj hs => Below.heap_setCell w1 ⟨g, i, none⟩ u j (fun e => hs (e ▸ hg))⟩
theorem blk {g : Nat} {o : Obj} (h : Only S w w1) (hb : w.heap[g]? = some o) (hs : ¬ S g) : w1.heap[g]? = some o := (h.block g (blk_lt hb) hs).trans hb
theorem below {B : Nat} (h : Only S w w1) (hB : B ≤ w.heap.size) (hs : ∀ k, S k → B ≤ k) : Below B w w1 := ⟨h.os, h.tape, h.output, h.size, fun k hk => h.block k (Nat.lt_of_lt_of_le hk hB) (fun hq => absurd (hs k hq) (by omega))⟩
theorem drop (h : Only S w w1) (hs : ∀ k, S k → T k ∨ w.heap.size ≤ k) : Only T w w1 := ⟨h.os, h.tape, h.output, h.size, fun j hj ht => h.block j hj (fun hk => (hs j hk).elim ht (fun hq => absurd hq (by omega)))⟩
end Only

/-- Some cells of a block are stored, one behind the other. -/
def setL (W : World) (g : Nat) : Nat → List Value → World
  | _, [] => W
  | i, v :: vs => setL (W.setCell ⟨g, i, none⟩ v) g (i + 1) vs
def setA (c : Array Value) : Nat → List Value → Array Value
  | _, [] => c
  | i, v :: vs => setA (c.setIfInBounds i v) (i + 1) vs
theorem setL_blk {g t : Nat} : ∀ (vs : List Value) (W : World) (i : Nat) (c : Array Value), W.heap[g]? = some (.cells c t (0, 0)) → (setL W g i vs).heap[g]? = some (.cells (setA c i vs) t (0, 0))
  | [], _, _, _, h => h
  | v :: vs, W, i, c, h => setL_blk vs _ (i + 1) _ (blk_set h i v)
theorem setA_list : ∀ (vs : List Value) (i : Nat) (c : Array Value), c.size = i + vs.length → (setA c i vs).toList = c.toList.take i ++ vs
  | [], i, c, h => by
    rw [setA, List.append_nil, List.take_of_length_le (by simp at h ⊢; omega)]
  | v :: vs, i, c, h => by
    have h' : i < c.size := by simp at h; omega
    rw [setA, setA_list vs (i + 1) _ (by simp at h ⊢; omega)]
    rw [Array.toList_setIfInBounds, List.take_succ_eq_append_getElem (by simp; omega), List.take_set_of_le (Nat.le_refl _)]
    simp
theorem setL_full {W : World} {g t : Nat} {c : Array Value} (h : W.heap[g]? = some (.cells c t (0, 0))) (vs : List Value) (hl : c.size = vs.length) : (setL W g 0 vs).heap[g]? = some (.cells vs.toArray t (0, 0)) := by
  rw [setL_blk vs W 0 c h]
  have := setA_list vs 0 c (by omega)
  simp only [List.take_zero, List.nil_append] at this
  rw [show setA c 0 vs = vs.toArray from Array.toList_inj.1 (by rw [this])]
theorem setL_below {w : World} {g B : Nat} (hg : B ≤ g) : ∀ (vs : List Value) (W : World) (i : Nat), Below B w W → Below B w (setL W g i vs)
  | [], _, _, h => h
  | v :: vs, W, i, h => setL_below hg vs _ (i + 1) (h.setCell (p := ⟨g, i, none⟩) hg v)
theorem setL_far {g g' : Nat} {o : Obj} (hg : g' ≠ g) : ∀ (vs : List Value) (W : World) (i : Nat), W.heap[g']? = some o → (setL W g i vs).heap[g']? = some o
  | [], _, _, h => h
  | v :: vs, W, i, h => setL_far hg vs _ (i + 1) ((Below.heap_setCell W ⟨g, i, none⟩ v g' hg).trans h)
theorem setL_R {α : Type} {d : Kd α} {e base : Nat} {ok : Nat → Prop} {v : Value} {xs : List α} {g : Nat} (hok : ∀ k, ok k → k ≠ g) : ∀ (vs : List Value) (W : World) (i : Nat), d.R e W base ok v xs → d.R e (setL W g i vs) base ok v xs
  | [], _, _, h => h
  | u :: vs, W, i, h => setL_R hok vs _ (i + 1) (Kd.R_far (p := ⟨g, i, none⟩) h hok u)

/-- A reader's state: its cells; what came in before; what the call has turned. -/
structure RS (S : Nat → Prop) (wb w1 : World) (ra : Nat) (A : Option Addr) (n c : Nat) (p : Int) (W : World) : Prop where
  br : W.heap[ra]? = some (.cells #[.slice A n c, .int .i64 p] 102 (0, 0))
  below : Below wb.heap.size wb W
  only : Only S w1 W
namespace RS
variable {S : Nat → Prop} {wb w1 W W' : World} {ra n c : Nat} {A : Option Addr} {p p' : Int}
theorem read (h : RS S wb w1 ra A n c p W) (hb : wb.heap.size ≤ ra) (hs : S ra) (q : Int) (hd : Drawn0 (W.setCell ⟨ra, 1, none⟩ (.int .i64 q)) W') (hq : q = p') : RS S wb w1 ra A n c p' W' := by
  subst hq
  have h1 : Below wb.heap.size wb (W.setCell ⟨ra, 1, none⟩ (.int .i64 q)) := h.below.setCell (p := ⟨ra, 1, none⟩) hb _
  exact ⟨drawn_blk hd (blk_put h.br 1 _ rfl), below_then h1 h1.size hd.below, (h.only.setCell hs 1 _).trans (Only.of_drawn hd)⟩
theorem drawn (h : RS S wb w1 ra A n c p W) (hd : Drawn0 W W') : RS S wb w1 ra A n c p W' := ⟨drawn_blk hd h.br, below_then h.below h.below.size hd.below, h.only.trans (Only.of_drawn hd)⟩
theorem store (h : RS S wb w1 ra A n c p W) {g : Nat} (hb : wb.heap.size ≤ g) (hs : S g) (hr : g ≠ ra) (i : Nat) (u : Value) : RS S wb w1 ra A n c p (W.setCell ⟨g, i, none⟩ u) :=
  ⟨blk_far h.br (p := ⟨g, i, none⟩) (Ne.symm hr) u, h.below.setCell (p := ⟨g, i, none⟩) hb _, h.only.setCell hs i u⟩
theorem far {g : Nat} {t : TypeId} {cs : Array Value} (hb : W.heap[g]? = some (.cells cs t (0, 0))) (hr : g ≠ ra) {q : Int} (hd : Drawn0 (W.setCell ⟨ra, 1, none⟩ (.int .i64 q)) W') : W'.heap[g]? = some (.cells cs t (0, 0)) :=
  drawn_blk hd (blk_far hb (p := ⟨ra, 1, none⟩) hr _)
theorem alloc (h : RS S wb w1 ra A n c p W) (o : Obj) : RS S wb w1 ra A n c p (W.alloc o) := ⟨blk_alloc h.br o, below_then h.below h.below.size (below_alloc (Below.refl _ _) o), h.only.alloc o⟩
theorem storeN (h : RS S wb w1 ra A n c p W) {g : Nat} (hn : w1.heap.size ≤ g) (hb : wb.heap.size ≤ g) (hr : g ≠ ra) (i : Nat) (u : Value) : RS S wb w1 ra A n c p (W.setCell ⟨g, i, none⟩ u) :=
  ⟨blk_far h.br (p := ⟨g, i, none⟩) (Ne.symm hr) u, h.below.setCell (p := ⟨g, i, none⟩) hb _, Only.drop (S := fun k => S k ∨ w1.heap.size ≤ k) ((h.only.mono (fun _ _ hk => .inl hk)).setCell (.inr hn) i u) (fun k hk => hk)⟩
theorem readR {α : Type} {d : Kd α} {e base : Nat} {ok : Nat → Prop} {v : Value} {xs : List α} (h : d.R e W base ok v xs) (hok : ∀ k, ok k → k ≠ ra) {q : Int} (hd : Drawn0 (W.setCell ⟨ra, 1, none⟩ (.int .i64 q)) W') : d.R e W' base ok v xs :=
  Kd.R_below (Kd.R_far h (p := ⟨ra, 1, none⟩) hok _) hd.below
theorem grown (h : RS S wb w1 ra A n c p W) {row : Option Nat} (hb : Below wb.heap.size wb W') (hg : W.grownBy W' row) (hrow : ∀ k, row = some k → w1.heap.size ≤ k) (hra : ra < w1.heap.size) : RS S wb w1 ra A n c p W' :=
  ⟨blk_grown h.br hg (fun he => by have := hrow ra he.symm; omega), hb, Only.drop (S := fun k => S k ∨ w1.heap.size ≤ k) ((h.only.mono (fun _ _ hk => .inl hk)).trans ⟨hg.os, hg.tape, hg.output, hg.size, fun k hk hs => hg.block k hk (fun he => hs (.inr (hrow k he.symm)))⟩) (fun k hk => hk)⟩
end RS

set_option maxHeartbeats 8000000 in
set_option maxRecDepth 100000 in
theorem parse.calls (F : Nat) (hcf : ∀ (args : Array Value) (w : World), (callFunc F args).run Try.prog w = .ok (.enter F args) w) (cap : Array Value) (ar : Nat → Array Value) (har : ∀ ra, #[.pointer (some ⟨ra, 0, none⟩)] ++ cap = ar ra) (S : Nat → Prop) (code cd : Int) (A : Option Addr) (c : Nat) (l : List Int) (w0 : World) (hr : Kd.C (Kd.int .u8) w0 A l.length l) (hc : l.length ≤ c)
    (OkP ErrP : Int → World → Prop) (hS : ∀ k, S k → k < w0.heap.size)
    (hOk : ∀ p w1 w2, OkP p w1 → Only (fun k => k = w0.heap.size + 1) w1 w2 → OkP p w2) (hErr : ∀ p w1 w2, ErrP p w1 → Only (fun k => k = w0.heap.size + 1) w1 w2 → ErrP p w2)
    (hF : ∀ (w1 : World), Below w0.heap.size w0 w1 → w1.heap.size = w0.heap.size + 3 → w1.heap[w0.heap.size + 2]? = some (.cells #[.slice A l.length c, .int .i64 0] 102 (0, 0)) → Calls Try.prog F (ar (w0.heap.size + 2)) w1 fun en w2 => Only (fun k => S k ∨ k = w0.heap.size + 2) w1 w2 ∧ ((∃ p, en = .returned (.tuple #[]) ∧ w2.heap[w0.heap.size + 2]? = some (.cells #[.slice A l.length c, .int .i64 p] 102 (0, 0)) ∧ OkP p w2) ∨ ∃ e, en = .panicked [{ v := .iface 99 (.agg #[.int .i64 e]), recovered := false }] ∧ ErrP e w2)) :
    Calls Try.prog 47 #[.agg #[.int .i64 code, .slice A l.length c], .int .i64 cd, .func (.func F) #[] cap] w0 fun en w' => ∃ e, en = .returned (.int .i64 e) ∧ Only S w0 w' ∧ ((code ≠ cd ∧ e = 11 ∧ Only (fun _ => False) w0 w') ∨ (code = cd ∧ ((∃ p, OkP p w' ∧ e = if p < (l.length : Int) then 9 else 0) ∨ ErrP e w'))) := by
  have hmf : ∀ (fn : Fn) (first cap : Array Value) (w : World), (Instr.makeFunc fn first cap).run Try.prog w = .ok (.func fn first cap) w := fun _ _ _ _ => rfl
  go_enter_defers Try.func47, Try.ntmps47
  by_cases hcd : code = cd
  · subst hcd
    go_wp2
    refine (hF _ ?b1 ?b2 ?b3).mono ?_
    case b1 => exact ((Below.refl _ _).alloc (Nat.le_refl _) _).alloc (by simp) _ |>.alloc (by simp; omega) _
    case b2 => simp
    case b3 => rw [show w0.heap.size + 1 + 1 = ((w0.alloc (Obj.cells #[Value.int IntKind.i64 code, Value.slice A l.length c] 26)).alloc (Obj.cells #[Value.int IntKind.i64 0] 29)).heap.size by simp]; exact blk_new _ _
    have hO1 : Only S w0 (((w0.alloc (Obj.cells #[Value.int IntKind.i64 code, Value.slice A l.length c] 26)).alloc (Obj.cells #[Value.int IntKind.i64 0] 29)).alloc (Obj.cells #[Value.slice A l.length c, Value.int IntKind.i64 0] 102)) := (((Only.refl S w0).alloc _).alloc _).alloc _
    have hb1 : (((w0.alloc (Obj.cells #[Value.int IntKind.i64 code, Value.slice A l.length c] 26)).alloc (Obj.cells #[Value.int IntKind.i64 0] 29)).alloc (Obj.cells #[Value.slice A l.length c, Value.int IntKind.i64 0] 102)).heap[w0.heap.size + 1]? = some (.cells #[.int .i64 0] 29 (0, 0)) := blk_alloc (by rw [show w0.heap.size + 1 = (w0.alloc (Obj.cells #[Value.int IntKind.i64 code, Value.slice A l.length c] 26)).heap.size by simp]; exact blk_new _ _) _
    generalize hW : (((w0.alloc (Obj.cells #[Value.int IntKind.i64 code, Value.slice A l.length c] 26)).alloc (Obj.cells #[Value.int IntKind.i64 0] 29)).alloc (Obj.cells #[Value.slice A l.length c, Value.int IntKind.i64 0] 102)) = W at hO1 hb1
    clear hW
    rintro en w2 ⟨hon, ⟨p, rfl, hbr, hok⟩ | ⟨e, rfl, herr⟩⟩
    · have hbe : w2.heap[w0.heap.size + 1]? = some (.cells #[.int .i64 0] 29 (0, 0)) := hon.blk hb1 (fun h => h.elim (fun h => absurd (hS _ h) (by omega)) (fun h => absurd h (by omega)))
      have hO2 : Only (fun k => S k ∨ k = w0.heap.size + 1 + 1) w0 w2 := (hO1.mono (fun _ _ h => Or.inl h)).trans hon
      clear hF hb1 hon hO1
      have hlt := blk_lt hbe
      have hlr := blk_lt hbr
      have hce : w2.cell? ⟨w0.heap.size + 1, 0, none⟩ = some (.int .i64 0) := (blk_cell hbe 0).trans rfl
      have hze := blk_frozen hbe 0
      have hcr0 : w2.cell? ⟨w0.heap.size + 1 + 1, 0, none⟩ = some (.slice A l.length c) := (blk_cell hbr 0).trans rfl
      have hcr1 : w2.cell? ⟨w0.heap.size + 1 + 1, 1, none⟩ = some (.int .i64 p) := (blk_cell hbr 1).trans rfl
      simp only []
      go_wp2
      repeat (go_quiet (fail))
      by_cases hp : p < (l.length : Int)
      · have hp' : decide (p < (l.length : Int)) = true := decide_eq_true hp
        go_wp2
        refine leaves_cons (f := 63) (args := #[.pointer (some ⟨w0.heap.size + 1, 0, none⟩)]) (by simp) (by simp [go_sem]) ?_
        refine (parse_idle (w0.heap.size + 1) _).mono ?_
        rintro e u' w'' ⟨rfl, rfl, rfl⟩
        have hv : ((w2.drewN nq).setCell ⟨w0.heap.size + 1, 0, none⟩ (.int .i64 9)).cell? ⟨w0.heap.size + 1, 0, none⟩ = some (.int .i64 9) := (blk_cell (blk_put (blk_drewN hbe nq) 0 (.int .i64 9) rfl) 0).trans rfl
        simp only [Leaves, settle, results, Try.results47]
        refine ⟨.int .i64 9, by simp [go_sem, hv], 9, rfl, ?_, .inl ⟨p, ?_, by rw [if_pos hp]⟩⟩
        · exact ((hO2.drewN nq).mono (T := fun k => S k ∨ w0.heap.size ≤ k) (fun k _ h => h.imp id (fun h => by omega))).setCell (.inr (by omega)) 0 _ |>.drop (fun k h => h)
        · exact hOk _ _ _ hok (((Only.refl (fun k => k = w0.heap.size + 1) w2).drewN nq).setCell rfl 0 _)
      · have hp' : decide (p < (l.length : Int)) = false := decide_eq_false hp
        go_wp2
        refine leaves_cons (f := 63) (args := #[.pointer (some ⟨w0.heap.size + 1, 0, none⟩)]) (by simp) (by simp [go_sem]) ?_
        refine (parse_idle (w0.heap.size + 1) _).mono ?_
        rintro e u' w'' ⟨rfl, rfl, rfl⟩
        have hv : ((w2.drewN nq).setCell ⟨w0.heap.size + 1, 0, none⟩ (.int .i64 0)).cell? ⟨w0.heap.size + 1, 0, none⟩ = some (.int .i64 0) := (blk_cell (blk_put (blk_drewN hbe nq) 0 (.int .i64 0) rfl) 0).trans rfl
        simp only [Leaves, settle, results, Try.results47]
        refine ⟨.int .i64 0, by simp [go_sem, hv], 0, rfl, ?_, .inl ⟨p, ?_, by rw [if_neg (by omega)]⟩⟩
        · exact ((hO2.drewN nq).mono (T := fun k => S k ∨ w0.heap.size ≤ k) (fun k _ h => h.imp id (fun h => by omega))).setCell (.inr (by omega)) 0 _ |>.drop (fun k h => h)
        · exact hOk _ _ _ hok (((Only.refl (fun k => k = w0.heap.size + 1) w2).drewN nq).setCell rfl 0 _)
    · have hbe : w2.heap[w0.heap.size + 1]? = some (.cells #[.int .i64 0] 29 (0, 0)) := hon.blk hb1 (fun h => h.elim (fun h => absurd (hS _ h) (by omega)) (fun h => absurd h (by omega)))
      have hO2 : Only (fun k => S k ∨ k = w0.heap.size + 1 + 1) w0 w2 := (hO1.mono (fun _ _ h => Or.inl h)).trans hon
      clear hF hb1 hon hO1
      refine leaves_cons (f := 63) (args := #[.pointer (some ⟨w0.heap.size + 1, 0, none⟩)]) (by simp) (by simp [go_sem]) ?_
      refine (parse_catch (w0.heap.size + 1) 0 e [] w2 hbe).mono ?_
      rintro en u' w'' ⟨rfl, rfl, rfl⟩
      have hv : ((w2.setCell ⟨w0.heap.size + 1, 0, none⟩ (.int .i64 e)).alloc (.cells #[.int .i64 e] 99)).cell? ⟨w0.heap.size + 1, 0, none⟩ = some (.int .i64 e) := (blk_cell (blk_alloc (blk_put hbe 0 (.int .i64 e) rfl) _) 0).trans rfl
      simp only [Leaves, settle, results, Try.results47, List.dropWhile]
      refine ⟨.int .i64 e, by simp [go_sem, hv], e, rfl, ?_, .inr ⟨trivial, .inr ?_⟩⟩
      · exact ((hO2.mono (T := fun k => S k ∨ w0.heap.size ≤ k) (fun k _ h => h.imp id (fun h => by omega))).setCell (.inr (by omega)) 0 _ |>.alloc _).drop (fun k h => h)
      · exact hErr _ _ _ herr (((Only.refl (fun k => k = w0.heap.size + 1) w2).setCell rfl 0 _).alloc _)
  · have hcd' : decide (code = cd) = false := decide_eq_false hcd
    go_wp2
    refine leaves_cons (f := 63) (args := #[.pointer (some ⟨w0.heap.size + 1, 0, none⟩)]) (by simp) (by simp [go_sem]) ?_
    refine (parse_idle (w0.heap.size + 1) _).mono ?_
    rintro e u' w'' ⟨rfl, rfl, rfl⟩
    simp [Leaves, settle, results, Try.results47, go_sem]
    exact ⟨((Only.refl S w0).alloc _).alloc _, .inl ⟨hcd, ((Only.refl _ w0).alloc _).alloc _⟩⟩
end Go.Proofs.Ytihfopblmjgfaaa.Q

/- A struct that fills a block, loaded and stored as a whole. -/
namespace Go.Proofs.Ytihfopblmjgfaaa.Q
open Go.RowKit Go.Proofs.YtihfopblmjgfaaaW.PrintWords Go.Proofs.YtihfopblmjgfaaaW.PrintLast Go.Proofs.YtihfopblmjgfaaaW.PrintMore
set_option linter.unusedVariables false
set_option linter.unusedSimpArgs false
section
variable {P : Program} {ops : Array Oper} {rest : List Oper} {o : Oper} {a : Act} {Q : Exit → Act → World → Prop} {W : World} {g t : Nat} {cs old : Array Value} {ty : TypeId} {fs : Array Field} {K : Act → World → Prop}
theorem range_blk (hb : W.heap[g]? = some (.cells cs t (0, 0))) : W.rangeAt g 0 cs.toList := fun j v hv => by
  rw [Nat.zero_add, blk_cell hb j]
  simpa using hv
theorem there_blk (hb : W.heap[g]? = some (.cells old t (0, 0))) {n : Nat} (hn : old.size = n) : W.there g 0 n := fun j hj => by
  rw [Nat.zero_add, blk_cell hb j]
  refine ⟨?_, blk_frozen hb j⟩
  rw [Array.getElem?_eq_getElem (by omega)]
  rfl
theorem setCells_setL (g : Nat) : ∀ (vs : List Value) (W : World) (i : Nat), W.setCells g i vs = setL W g i vs
  | [], _, _ => rfl
  | v :: vs, W, i => by
    show World.setCells _ g (i + 1) vs = _
    rw [setCells_setL g vs]
    rfl
theorem run_load_blk (hb : W.heap[g]? = some (.cells cs t (0, 0))) (hu : P.underlying ty = some (.struct fs)) (hi : (P.info? ty).map (·.size) = some cs.size) : (Instr.loadAt ty (.pointer (some ⟨g, 0, none⟩))).run P W = .ok (.agg cs) W := by
  have := run_loadAt_mid (P := P) W g 0 ty cs.toList (.struct fs) (range_blk hb) hu rfl (by simpa using hi)
  simpa using this
theorem run_store_blk (hb : W.heap[g]? = some (.cells old t (0, 0))) (hs : old.size = cs.size) (hi : (P.info? ty).map (·.size) = some cs.size) (h1 : cs.all (·.oneCell') = true) : (Instr.storeAt ty (.pointer (some ⟨g, 0, none⟩)) (.agg cs)).run P W = .ok () (setL W g 0 cs.toList) := by
  rw [← setCells_setL]
  exact run_storeAt_mid W g 0 ty cs (there_blk hb hs) hi h1
/-- What a store of a whole struct leaves. -/
structure Stored (W : World) (g t : Nat) (cs : Array Value) (W' : World) : Prop where
  blk : W'.heap[g]? = some (.cells cs t (0, 0))
  far : ∀ (g' : Nat) (o : Obj), g' ≠ g → W.heap[g']? = some o → W'.heap[g']? = some o
  below : ∀ (B : Nat) (w : World), B ≤ g → Below B w W → Below B w W'
  row : ∀ {α : Type} {d : Kd α} {e base : Nat} {ok : Nat → Prop} {v : Value} {xs : List α}, (∀ k, ok k → k ≠ g) → d.R e W base ok v xs → d.R e W' base ok v xs
theorem stored (hb : W.heap[g]? = some (.cells old t (0, 0))) (hs : old.size = cs.size) : Stored W g t cs (setL W g 0 cs.toList) :=
  ⟨by have := setL_full hb cs.toList (by simpa using hs); simpa using this, fun g' o hg h => setL_far hg cs.toList W 0 h, fun B w hB h => setL_below hB cs.toList W 0 h, fun hok h => setL_R hok cs.toList W 0 h⟩
theorem load_ev (hgd : o.guard = none) (ty : TypeId) (x : Operand) (ho : o.op = .load ty x) (hx : a.eval x = .pointer (some ⟨g, 0, none⟩)) (hb : W.heap[g]? = some (.cells cs t (0, 0))) (hu : P.underlying ty = some (.struct fs)) (hi : (P.info? ty).map (·.size) = some cs.size)
    (h : wpList P ops Q rest (a.put o.dst (.agg cs)) W) : wpList P ops Q (o :: rest) a W :=
  wpList_plain hgd fun K hK => by
    unfold Oper.wp execOp
    simp only [ho, hx, Sem.run_bind, run_load_blk hb hu hi, Result.andThen_ok, Sem.run_pure]
    exact hK _ _ h
theorem store_ev (hgd : o.guard = none) (hN : o.dst = none) (ty : TypeId) (x y : Operand) (ho : o.op = .store ty x y) (hx : a.eval x = .pointer (some ⟨g, 0, none⟩)) (hy : a.eval y = .agg cs) (hb : W.heap[g]? = some (.cells old t (0, 0))) (hs : old.size = cs.size) (hi : (P.info? ty).map (·.size) = some cs.size) (h1 : cs.all (·.oneCell') = true)
    (h : ∀ W', Stored W g t cs W' → wpList P ops Q rest a W') : wpList P ops Q (o :: rest) a W :=
  wpList_plain hgd fun K hK => by
    unfold Oper.wp execOp
    simp only [ho, hx, hy, Sem.run_bind, run_store_blk hb hs hi h1, Result.andThen_ok, Sem.run_pure]
    show K (a.put o.dst undef) _
    rw [hN]
    exact hK _ _ (h _ (stored hb hs))
theorem load_yields {S : World → Prop} (hw : Region.wanted o (yielded ops a.tmps) = true) (ty : TypeId) (x : Operand) (ho : o.op = .load ty x) (hx : a.eval x = .pointer (some ⟨g, 0, none⟩)) (hS : ∀ w, S w → w.heap[g]? = some (.cells cs t (0, 0))) (hu : P.underlying ty = some (.struct fs)) (hi : (P.info? ty).map (·.size) = some cs.size) : YieldsIf P ops S o (.agg cs) a :=
  .inl ⟨hw, fun w hw' => by
    unfold execOp
    simp only [ho, hx, Sem.run_bind, run_load_blk (hS w hw') hu hi, Result.andThen_ok, Sem.run_pure]⟩
theorem store_step (hw : Region.wanted o (yielded ops a.tmps) = true) (hN : o.dst = none) (ty : TypeId) (x y : Operand) (ho : o.op = .store ty x y) (hx : a.eval x = .pointer (some ⟨g, 0, none⟩)) (hy : a.eval y = .agg cs) (hb : W.heap[g]? = some (.cells old t (0, 0))) (hs : old.size = cs.size) (hi : (P.info? ty).map (·.size) = some cs.size) (h1 : cs.all (·.oneCell') = true)
    (h : ∀ W', Stored W g t cs W' → K a W') : if Region.wanted o (yielded ops a.tmps) = true then Oper.wp P o a W K Q else K (a.put none undef) W := by
  refine skip_ (w1 := setL W g 0 cs.toList) hw hN ?_ (h _ (stored hb hs))
  unfold execOp
  simp only [ho, hx, hy, Sem.run_bind, run_store_blk hb hs hi h1, Result.andThen_ok, Sem.run_pure]
end
/-- Blocks that are held: each full, no two alike. -/
structure Bks (n : Nat) (w0 W : World) (l : List (Nat × Nat × Array Value)) : Prop where
  blk : ∀ (i : Nat) (b : Nat × Nat × Array Value), l[i]? = some b → W.heap[b.1]? = some (.cells b.2.2 b.2.1 (0, 0))
  ne : ∀ (i j : Nat) (b c : Nat × Nat × Array Value), i ≠ j → l[i]? = some b → l[j]? = some c → b.1 ≠ c.1
  ge : ∀ (i : Nat) (b : Nat × Nat × Array Value), l[i]? = some b → n ≤ b.1
  below : Below n w0 W
namespace Bks
variable {n : Nat} {w0 W W' : World} {l : List (Nat × Nat × Array Value)} {i g t : Nat} {cs : Array Value}
theorem nil (w : World) : Bks w.heap.size w w [] := ⟨fun i b h => by simp at h, fun i j b c _ h => by simp at h, fun i b h => by simp at h, Below.refl _ _⟩
theorem get (h : Bks n w0 W l) (i : Nat) (hi : l[i]? = some (g, t, cs)) : W.heap[g]? = some (.cells cs t (0, 0)) := h.blk i _ hi
theorem cell (h : Bks n w0 W l) (i : Nat) (hi : l[i]? = some (g, t, cs)) (j : Nat) {v : Value} (hv : cs[j]? = some v) : W.cell? ⟨g, j, none⟩ = some v := (blk_cell (h.get i hi) j).trans hv
theorem call (h : Bks n w0 W l) (hn : n ≤ W.heap.size) (hb : Below W.heap.size W W') : Bks n w0 W' l :=
  ⟨fun i b hi => blk_below (h.blk i b hi) hb, h.ne, h.ge, h.below.trans (hb.mono hn)⟩
theorem into (h : Bks n w0 W l) (hi : l[i]? = some (g, t, cs)) (cs' : Array Value) (h1 : W'.heap[g]? = some (.cells cs' t (0, 0))) (h2 : ∀ (g' : Nat) (o : Obj), g' ≠ g → W.heap[g']? = some o → W'.heap[g']? = some o) (h3 : Below n w0 W') : Bks n w0 W' (l.set i (g, t, cs')) := by
  have key : ∀ (j : Nat) (b : Nat × Nat × Array Value), (l.set i (g, t, cs'))[j]? = some b → (j = i ∧ b = (g, t, cs')) ∨ (j ≠ i ∧ l[j]? = some b) := by
    intro j b hj
    by_cases hji : j = i
    · subst hji
      rw [List.getElem?_set] at hj
      rw [if_pos rfl] at hj
      split at hj
      · exact .inl ⟨rfl, (Option.some.inj hj).symm⟩
      · exact absurd hj (by simp)
    · rw [List.getElem?_set, if_neg (Ne.symm hji)] at hj
      exact .inr ⟨hji, hj⟩
  have nm : ∀ (j : Nat) (b : Nat × Nat × Array Value), (l.set i (g, t, cs'))[j]? = some b → ∃ c, l[j]? = some c ∧ c.1 = b.1 := by
    intro j b hj
    rcases key j b hj with ⟨rfl, rfl⟩ | ⟨_, h'⟩
    · exact ⟨_, hi, rfl⟩
    · exact ⟨_, h', rfl⟩
  refine ⟨fun j b hj => ?_, fun j k b c hjk hj hk => ?_, fun j b hj => ?_, h3⟩
  · rcases key j b hj with ⟨rfl, rfl⟩ | ⟨hne, h'⟩
    · exact h1
    · exact h2 _ _ (h.ne j i _ _ hne h' hi) (h.blk j b h')
  · obtain ⟨b', hb', e1⟩ := nm j b hj
    obtain ⟨c', hc', e2⟩ := nm k c hk
    rw [← e1, ← e2]
    exact h.ne j k _ _ hjk hb' hc'
  · obtain ⟨b', hb', e1⟩ := nm j b hj
    rw [← e1]
    exact h.ge j _ hb'
theorem set (h : Bks n w0 W l) (i : Nat) (hi : l[i]? = some (g, t, cs)) (j : Nat) (v : Value) {cs' : Array Value} (hcs : cs.setIfInBounds j v = cs') : Bks n w0 (W.setCell ⟨g, j, none⟩ v) (l.set i (g, t, cs')) :=
  h.into hi cs' (blk_put (h.get i hi) j v hcs) (fun g' o hg ho => (Below.heap_setCell W ⟨g, j, none⟩ v g' hg).trans ho) (h.below.setCell (p := ⟨g, j, none⟩) (h.ge i _ hi) v)
theorem stored (h : Bks n w0 W l) (i : Nat) (hi : l[i]? = some (g, t, cs)) {cs' : Array Value} (hs : Stored W g t cs' W') : Bks n w0 W' (l.set i (g, t, cs')) :=
  h.into hi cs' hs.blk hs.far (hs.below _ _ (h.ge i _ hi) h.below)
theorem box (h : Bks n w0 W l) (hn : n ≤ W.heap.size) (hg : g = W.heap.size) (hbox : W'.heap[g]? = some (.cells cs t (0, 0))) (hb : Below W.heap.size W W') : Bks n w0 W' ((g, t, cs) :: l) := by
  have lt : ∀ (j : Nat) (b : Nat × Nat × Array Value), l[j]? = some b → b.1 < g := fun j b hj => hg ▸ blk_lt (h.blk j b hj)
  have h' := h.call hn hb
  refine ⟨fun j b hj => ?_, fun j k b c hjk hj hk => ?_, fun j b hj => ?_, h'.below⟩
  · cases j with
    | zero => obtain rfl : (g, t, cs) = b := by simpa using hj
              exact hbox
    | succ j => exact h'.blk j b (by simpa using hj)
  · cases j with
    | zero => obtain rfl : (g, t, cs) = b := by simpa using hj
              cases k with
              | zero => exact absurd rfl hjk
              | succ k => exact Nat.ne_of_gt (lt k c (by simpa using hk))
    | succ j => cases k with
              | zero => obtain rfl : (g, t, cs) = c := by simpa using hk
                        exact Nat.ne_of_lt (lt j b (by simpa using hj))
              | succ k => exact h.ne j k b c (fun e => hjk (by rw [e])) (by simpa using hj) (by simpa using hk)
  · cases j with
    | zero => obtain rfl : (g, t, cs) = b := by simpa using hj
              exact hg ▸ hn
    | succ j => exact h.ge j b (by simpa using hj)
theorem alloc (h : Bks n w0 W l) (hn : n ≤ W.heap.size) (cs : Array Value) (t : Nat) : Bks n w0 (W.alloc (.cells cs t)) ((W.heap.size, t, cs) :: l) :=
  h.box hn rfl (blk_new W _) (below_alloc (Below.refl _ _) _)
theorem drew (h : Bks n w0 W l) : Bks n w0 W.drew l := ⟨h.blk, h.ne, h.ge, below_drew1 h.below⟩
theorem swap {x y : Nat × Nat × Array Value} (h : Bks n w0 W (x :: y :: l)) : Bks n w0 W (y :: x :: l) := by
  have key : ∀ i b, (y :: x :: l)[i]? = some b → ∃ j, (x :: y :: l)[j]? = some b ∧ j = (if i = 0 then 1 else if i = 1 then 0 else i) := by
    intro i b hi
    match i, hi with
    | 0, hi => exact ⟨1, by simpa using hi, rfl⟩
    | 1, hi => exact ⟨0, by simpa using hi, rfl⟩
    | i + 2, hi => exact ⟨i + 2, by simpa using hi, by simp⟩
  refine ⟨fun i b hi => ?_, fun i j b c hij hi hj => ?_, fun i b hi => ?_, h.below⟩
  · obtain ⟨k, hk, _⟩ := key i b hi
    exact h.blk k b hk
  · obtain ⟨k, hk, e1⟩ := key i b hi
    obtain ⟨m, hm, e2⟩ := key j c hj
    refine h.ne k m b c (fun e => hij ?_) hk hm
    rcases i with _ | _ | i <;> rcases j with _ | _ | j <;> simp at e1 e2 <;> omega
  · obtain ⟨k, hk, _⟩ := key i b hi
    exact h.ge k b hk
end Bks
theorem row_set {α : Type} {d : Kd α} {e base g t : Nat} {W : World} {cs : Array Value} {v : Value} {xs : List α} (hR : d.R e W base (fun _ => True) v xs) (hb : W.heap[g]? = some (.cells cs t (0, 0))) (ht : ∀ q, q ∈ e :: d.E → q ≠ t) (j : Nat) (u : Value) : d.R e (W.setCell ⟨g, j, none⟩ u) base (fun _ => True) v xs :=
  Kd.R_mono (Kd.R_far (p := ⟨g, j, none⟩) (Kd.R_types hR hb ht) (fun _ hk => hk.2) u) (fun _ _ => trivial)
theorem row_stored {α : Type} {d : Kd α} {e base g t : Nat} {W W' : World} {cs cs' : Array Value} {v : Value} {xs : List α} (hR : d.R e W base (fun _ => True) v xs) (hb : W.heap[g]? = some (.cells cs t (0, 0))) (ht : ∀ q, q ∈ e :: d.E → q ≠ t) (hs : Stored W g t cs' W') : d.R e W' base (fun _ => True) v xs :=
  Kd.R_mono (hs.row (fun _ hk => hk.2) (Kd.R_types hR hb ht)) (fun _ _ => trivial)
end Go.Proofs.Ytihfopblmjgfaaa.Q

/- The eight flags of the parameters. Printed by wip/tools/genFlags.py of this session. -/
namespace Go.Proofs.Ytihfopblmjgfaaa.Q
open Go.RowKit Go.Proofs.YtihfopblmjgfaaaW.PrintWords Go.Proofs.YtihfopblmjgfaaaW.PrintLast Go.Proofs.YtihfopblmjgfaaaW.PrintMore
set_option linter.unusedVariables false
set_option linter.unusedSimpArgs false

set_option maxHeartbeats 8000000 in
set_option maxRecDepth 100000 in
theorem headseg_flags.calls (X0 X1 X2 X3 X4 X5 X6 X7 X16 X17 X18 : Value) (b0 b1 b2 b3 b4 b5 b6 b7 : Bool) (w : World) :
    Calls Try.prog 56 #[.agg #[X0, X1, X2, X3, X4, X5, X6, X7, .bool b0, .bool b1, .bool b2, .bool b3, .bool b4, .bool b5, .bool b6, .bool b7, X16, X17, X18]] w fun e w' => e = .returned (.agg #[.bool b0, .bool b1, .bool b2, .bool b3, .bool b4, .bool b5, .bool b6, .bool b7]) ∧ Below w.heap.size w w' := by
  have K00 := Aside0.mk (Bks.nil w)
  go_enter Try.func56, Try.ntmps56
  go_wp2_with (first
    | ((with_reducible refine gate_dst (N := 1) rfl ?_); refine box_event ?hg (N := 1) ?hd (cs := #[X0, X1, X2, X3, X4, X5, X6, X7, .bool b0, .bool b1, .bool b2, .bool b3, .bool b4, .bool b5, .bool b6, .bool b7, X16, X17, X18]) (t := 55) ?hr ?_; (case hd => rfl); (case hg => rfl); (case hr => first | (go_simp; done) | (go_simp; rfl)); intro g1 hg W1 hbox hb; have K0 := Aside0.mk (K00.out.box (Nat.le_refl _) hg hbox hb); clear hg hbox hb K00)
    | ((with_reducible refine gate_dst (N := 2) rfl ?_); refine box_event ?hg (N := 2) ?hd (cs := #[.bool false, .bool false, .bool false, .bool false, .bool false, .bool false, .bool false, .bool false]) (t := 90) ?hr ?_; (case hd => rfl); (case hg => rfl); (case hr => first | (go_simp; done) | (go_simp; rfl)); intro g2 hg W2 hbox hb; have K1 := Aside0.mk (K0.out.box (below_size K0.out.below) hg hbox hb); clear hg hbox hb K0; have p8 : W2.cell? ⟨g1, 8, none⟩ = some (.bool b0) := K1.out.cell 1 rfl 8 rfl; have p9 : W2.cell? ⟨g1, 9, none⟩ = some (.bool b1) := K1.out.cell 1 rfl 9 rfl; have p10 : W2.cell? ⟨g1, 10, none⟩ = some (.bool b2) := K1.out.cell 1 rfl 10 rfl; have p11 : W2.cell? ⟨g1, 11, none⟩ = some (.bool b3) := K1.out.cell 1 rfl 11 rfl; have p12 : W2.cell? ⟨g1, 12, none⟩ = some (.bool b4) := K1.out.cell 1 rfl 12 rfl; have p13 : W2.cell? ⟨g1, 13, none⟩ = some (.bool b5) := K1.out.cell 1 rfl 13 rfl; have p14 : W2.cell? ⟨g1, 14, none⟩ = some (.bool b6) := K1.out.cell 1 rfl 14 rfl; have p15 : W2.cell? ⟨g1, 15, none⟩ = some (.bool b7) := K1.out.cell 1 rfl 15 rfl)
    | ((with_reducible refine gate_dst (N := 3) rfl ?_); refine box_event ?hg (N := 3) ?hd (cs := #[.bool false, .bool false, .bool false, .bool false, .bool false]) (t := 53) ?hr ?_; (case hd => rfl); (case hg => rfl); (case hr => first | (go_simp; done) | (go_simp; rfl)); intro g3 hg W3 hbox hb; have K2 := Aside0.mk (K1.out.box (below_size K1.out.below) hg hbox hb); clear hg hbox hb K1)
    | (refine store_ev rfl rfl 53 (.tmp 3) (.tmp 5) rfl rfl rfl (K2.out.get 0 rfl) rfl rfl (by first | (kernel_rfl) | (simp [Value.oneCell'])) ?_; intro W4 hs; have K3 := Aside0.mk (K2.out.stored 0 rfl hs); clear hs K2 p8 p9 p10 p11 p12 p13 p14 p15; have p13 : W4.cell? ⟨g1, 13, none⟩ = some (.bool b5) := K3.out.cell 2 rfl 13 rfl; have p14 : W4.cell? ⟨g1, 14, none⟩ = some (.bool b6) := K3.out.cell 2 rfl 14 rfl; have p15 : W4.cell? ⟨g1, 15, none⟩ = some (.bool b7) := K3.out.cell 2 rfl 15 rfl; have q0 : W4.cell? ⟨g3, 0, none⟩ = some (.bool b0) := K3.out.cell 0 rfl 0 rfl; have q1 : W4.cell? ⟨g3, 1, none⟩ = some (.bool b1) := K3.out.cell 0 rfl 1 rfl; have q2 : W4.cell? ⟨g3, 2, none⟩ = some (.bool b2) := K3.out.cell 0 rfl 2 rfl; have q3 : W4.cell? ⟨g3, 3, none⟩ = some (.bool b3) := K3.out.cell 0 rfl 3 rfl; have q4 : W4.cell? ⟨g3, 4, none⟩ = some (.bool b4) := K3.out.cell 0 rfl 4 rfl)
    | (refine store_ev rfl rfl 90 (.tmp 2) (.tmp 22) rfl rfl rfl (K3.out.get 1 rfl) rfl rfl (by first | (kernel_rfl) | (simp [Value.oneCell'])) ?_; intro W5 hs; have K4 := Aside0.mk (K3.out.stored 1 rfl hs); clear hs))
  refine bodyPost_ret (results_single rfl (.cell g2 90 _ (0, 0) _ rfl (K4.out.get 1 rfl) Try.underlying90 rfl (by kernel_rfl) .nil)) rfl ?_
  exact ⟨rfl, K4.out.below⟩
end Go.Proofs.Ytihfopblmjgfaaa.Q

/- Printed walk, shortened (wip/tools/unmerge.py). -/
namespace Go.Proofs.Ytihfopblmjgfaaa.Q
open Go.RowKit Go.Proofs.YtihfopblmjgfaaaW.PrintWords Go.Proofs.YtihfopblmjgfaaaW.PrintLast Go.Proofs.YtihfopblmjgfaaaW.PrintMore
attribute [local go_sem] max2_int min2_int max_two min_two max_three min_three max_four min_four   -- for this text's walks alone
set_option linter.unusedVariables false
set_option linter.unusedSimpArgs false

/-! ### headseg_within: function 43 -/
def headseg_within.l0 : Nat → Int → Int → List Int → Int → Int → Option (Bool)
  | 0, _, _, _, _, _ => none
  | k + 1, x0, x1, x9, x10, x11 => if x11 < x10 then (if 0 ≤ x11 then (if x11 < (x9.length : Int) then (if (rd x9 x11) < x0 then (some false) else (if (rd x9 x11) > x1 then (some false) else (headseg_within.l0 k x0 x1 x9 x10 (wrap64 (x11 + 1))))) else (none)) else (none)) else (some true)
def headseg_within.f (k : Nat) (a0 : Int) (a1 : Int) (l2 : List Int) : Option (Bool) := headseg_within.l0 k a0 a1 l2 (l2.length : Int) 0
theorem headseg_within.mono_l : ∀ k, (∀ y0 y1 y2 y3 y4, LeO (headseg_within.l0 k y0 y1 y2 y3 y4) (headseg_within.l0 (k + 1) y0 y1 y2 y3 y4))
  | 0 => fun _ _ _ _ _ r h => by simp [headseg_within.l0] at h
  | k + 1 => by
    have ih0 := headseg_within.mono_l k
    · intro y0 y1 y2 y3 y4
      unfold headseg_within.l0
      repeat' first
      | (with_reducible exact ih0 _ _ _ _ _)
      | (with_reducible exact LeO.refl _)
      | (with_reducible exact LeO.none _)
      | (with_reducible refine LeO.ite ?_ ?_)
      | (with_reducible refine LeO.bind ?_ (fun _ => ?_))
      | exact ih0 _ _ _ _ _
      | exact LeO.none _
      | refine LeO.ite ?_ ?_
      | refine LeO.bind ?_ (fun _ => ?_)
theorem headseg_within.mono : ∀ a0 a1 a2 k, LeO (headseg_within.f k a0 a1 a2) (headseg_within.f (k + 1) a0 a1 a2) := by
  intro a0 a1 a2 k
  have ih0 := headseg_within.mono_l k
  unfold headseg_within.f
  repeat' first
      | (with_reducible exact ih0 _ _ _ _ _)
      | (with_reducible exact LeO.refl _)
      | (with_reducible exact LeO.none _)
      | (with_reducible refine LeO.ite ?_ ?_)
      | (with_reducible refine LeO.bind ?_ (fun _ => ?_))
      | exact ih0 _ _ _ _ _
      | exact LeO.none _
      | refine LeO.ite ?_ ?_
      | refine LeO.bind ?_ (fun _ => ?_)
set_option maxHeartbeats 8000000 in
set_option maxRecDepth 100000 in
theorem headseg_within.calls (k : Nat) (a0 : Int) (a1 : Int) (A2 : Option Addr) (c2 : Nat) (l2 : List Int) (r : Bool) (w : World) (hr2 : Kd.C (Kd.int .i64) w A2 l2.length l2) (hc2 : l2.length ≤ c2) (h : headseg_within.f k a0 a1 l2 = some r) :
    Calls Try.prog 43 #[.int .i64 a0, .int .i64 a1, .slice A2 l2.length c2] w fun e w' => e = .returned (.bool r) ∧ Drawn0 w w' := by
  have HR2 := Aside0.mk hr2
  have HC2 := Aside0.mk hc2
  clear hr2 hc2
  have H : (headseg_within.l0 k a0 a1 l2 (l2.length : Int) 0) = some r := h
  clear h
  have H' := Aside0.mk H
  clear H
  go_enter Try.func43, Try.ntmps43
  go_wp2
  go_loopg [11] k (fun kq v11 w' => ∃ (x11_1 : Int), v11 = .int .i64 x11_1 ∧ Aside0 (headseg_within.l0 kq a0 a1 l2 (l2.length : Int) x11_1 = some r) ∧ Aside0 (kq ≤ k) ∧ Drawn0 w w')
  case atStart => exact ⟨(0), (by first | rfl | (simp; done) | (simp [*]; done)), H', ⟨Nat.le_refl _⟩, by repeat (first | exact Drawn0.refl _ | apply Drawn0.step)⟩
  case round =>
    clear H'
    try clear c2
    try clear p2
    obtain ⟨x11_1, rfl, HA, HK1, ⟨m1, rfl⟩⟩ := hrel
    cases gk with
    | zero => exact absurd HA.out (by simp [headseg_within.l0])
    | succ k1 =>
      have H := HA.out
      clear HA
      simp only [headseg_within.l0] at H
      by_cases c4 : x11_1 < (l2.length : Int)
      · rw [if_pos c4] at H
        have c4b0 : decide (x11_1 < (l2.length : Int)) = true := decide_eq_true c4
        clear c4
        by_cases c5 : 0 ≤ x11_1
        · rw [if_pos c5] at H
          have c5b0 : decide (0 ≤ x11_1) = true := decide_eq_true c5
          clear c5
          by_cases c6 : x11_1 < (l2.length : Int)
          · rw [if_pos c6] at H
            have c6b0 : decide (x11_1 < (l2.length : Int)) = true := decide_eq_true c6
            clear c6
            by_cases c7 : (rd l2 x11_1) < a0
            · rw [if_pos c7] at H
              have c7b0 : decide ((rd l2 x11_1) < a0) = true := decide_eq_true c7
              clear c7
              obtain rfl := Option.some.inj H
              have p102 : 0 ≤ (x11_1 : Int) := of_decide_eq_true (by first | (with_reducible assumption) | assumption)
              have q102 : x11_1 < (l2.length : Int) := of_decide_eq_true (by first | (with_reducible assumption) | assumption)
              obtain ⟨ad102, e102, hx102_0⟩ := Kd.at_int HR2.out x11_1 p102 q102
              cases e102
              replace p102 := eq_true p102
              replace q102 := eq_true q102
              go_wp2
              go_ret
              exact ⟨by first | rfl | (simp; done) | (simp [*]; done), by repeat (first | exact Drawn0.refl _ | apply Drawn0.step)⟩
            · rw [if_neg c7] at H
              have c7b0 : decide ((rd l2 x11_1) < a0) = false := decide_eq_false c7
              clear c7
              by_cases c8 : (rd l2 x11_1) > a1
              · rw [if_pos c8] at H
                have c8b0 : decide (a1 < (rd l2 x11_1)) = true := decide_eq_true c8
                clear c8
                obtain rfl := Option.some.inj H
                have p102 : 0 ≤ (x11_1 : Int) := of_decide_eq_true (by first | (with_reducible assumption) | assumption)
                have q102 : x11_1 < (l2.length : Int) := of_decide_eq_true (by first | (with_reducible assumption) | assumption)
                obtain ⟨ad102, e102, hx102_0⟩ := Kd.at_int HR2.out x11_1 p102 q102
                cases e102
                replace p102 := eq_true p102
                replace q102 := eq_true q102
                go_wp2
                go_ret
                exact ⟨by first | rfl | (simp; done) | (simp [*]; done), by repeat (first | exact Drawn0.refl _ | apply Drawn0.step)⟩
              · rw [if_neg c8] at H
                have c8b0 : decide (a1 < (rd l2 x11_1)) = false := decide_eq_false c8
                clear c8
                have H' := Aside0.mk H
                clear H
                have p102 : 0 ≤ (x11_1 : Int) := of_decide_eq_true (by first | (with_reducible assumption) | assumption)
                have q102 : x11_1 < (l2.length : Int) := of_decide_eq_true (by first | (with_reducible assumption) | assumption)
                obtain ⟨ad102, e102, hx102_0⟩ := Kd.at_int HR2.out x11_1 p102 q102
                cases e102
                replace p102 := eq_true p102
                replace q102 := eq_true q102
                go_wp2
                go_roundg k1
                case measure => have := HK1.out; omega
                case rel => exact ⟨(wrap64 (x11_1 + 1)), (by first | rfl | (simp; done) | (simp [*]; done)), H', ⟨by have := HK1.out; omega⟩, by repeat (first | exact Drawn0.refl _ | apply Drawn0.step)⟩
          · rw [if_neg c6] at H
            exact absurd H (by simp)
        · rw [if_neg c5] at H
          exact absurd H (by simp)
      · rw [if_neg c4] at H
        have c4b0 : decide (x11_1 < (l2.length : Int)) = false := decide_eq_false c4
        clear c4
        obtain rfl := Option.some.inj H
        go_wp2
        go_ret
        exact ⟨by first | rfl | (simp; done) | (simp [*]; done), by repeat (first | exact Drawn0.refl _ | apply Drawn0.step)⟩

end Go.Proofs.Ytihfopblmjgfaaa.Q

/- Coding. Printed by wip/tools/genCoding.py of this session. -/
namespace Go.Proofs.Ytihfopblmjgfaaa.Q
open Go.RowKit Go.Proofs.YtihfopblmjgfaaaW.PrintWords Go.Proofs.YtihfopblmjgfaaaW.PrintLast Go.Proofs.YtihfopblmjgfaaaW.PrintMore
set_option linter.unusedVariables false
set_option linter.unusedSimpArgs false
def bat (l : List Bool) (i : Int) : Bool := l.getD i.toNat false
theorem eight_ix (x0 x1 x2 x3 x4 x5 x6 x7 : Bool) (i : Int) (h0 : 0 ≤ i) (h1 : i < 8) (W : World) : (Instr.index 90 (.agg #[.bool x0, .bool x1, .bool x2, .bool x3, .bool x4, .bool x5, .bool x6, .bool x7]) (.int .i64 i)).run Try.prog W = .ok (.bool (bat [x0, x1, x2, x3, x4, x5, x6, x7] i)) W := by
  have h : i = 0 ∨ i = 1 ∨ i = 2 ∨ i = 3 ∨ i = 4 ∨ i = 5 ∨ i = 6 ∨ i = 7 := by omega
  rcases h with rfl | rfl | rfl | rfl | rfl | rfl | rfl | rfl
  · exact (show ∀ W : World, (Instr.index 90 (.agg #[.bool x0, .bool x1, .bool x2, .bool x3, .bool x4, .bool x5, .bool x6, .bool x7]) (.int .i64 0)).run Try.prog W = .ok (.bool x0) W from fun _ => by kernel_rfl) W
  · exact (show ∀ W : World, (Instr.index 90 (.agg #[.bool x0, .bool x1, .bool x2, .bool x3, .bool x4, .bool x5, .bool x6, .bool x7]) (.int .i64 1)).run Try.prog W = .ok (.bool x1) W from fun _ => by kernel_rfl) W
  · exact (show ∀ W : World, (Instr.index 90 (.agg #[.bool x0, .bool x1, .bool x2, .bool x3, .bool x4, .bool x5, .bool x6, .bool x7]) (.int .i64 2)).run Try.prog W = .ok (.bool x2) W from fun _ => by kernel_rfl) W
  · exact (show ∀ W : World, (Instr.index 90 (.agg #[.bool x0, .bool x1, .bool x2, .bool x3, .bool x4, .bool x5, .bool x6, .bool x7]) (.int .i64 3)).run Try.prog W = .ok (.bool x3) W from fun _ => by kernel_rfl) W
  · exact (show ∀ W : World, (Instr.index 90 (.agg #[.bool x0, .bool x1, .bool x2, .bool x3, .bool x4, .bool x5, .bool x6, .bool x7]) (.int .i64 4)).run Try.prog W = .ok (.bool x4) W from fun _ => by kernel_rfl) W
  · exact (show ∀ W : World, (Instr.index 90 (.agg #[.bool x0, .bool x1, .bool x2, .bool x3, .bool x4, .bool x5, .bool x6, .bool x7]) (.int .i64 5)).run Try.prog W = .ok (.bool x5) W from fun _ => by kernel_rfl) W
  · exact (show ∀ W : World, (Instr.index 90 (.agg #[.bool x0, .bool x1, .bool x2, .bool x3, .bool x4, .bool x5, .bool x6, .bool x7]) (.int .i64 6)).run Try.prog W = .ok (.bool x6) W from fun _ => by kernel_rfl) W
  · exact (show ∀ W : World, (Instr.index 90 (.agg #[.bool x0, .bool x1, .bool x2, .bool x3, .bool x4, .bool x5, .bool x6, .bool x7]) (.int .i64 7)).run Try.prog W = .ok (.bool x7) W from fun _ => by kernel_rfl) W
theorem Bks.grownH {α : Type} {d : Kd α} {e : Nat} {n : Nat} {w0 W W' : World} {l : List (Nat × Nat × Array Value)} (h : Bks n w0 W l) {base : Nat} {ok : Nat → Prop} {v : Value} {xs : List α} (hR : d.R e W base ok v xs) (hg : W.grownBy W' v.ownBlock) (hb : Below n w0 W') (ht : ∀ (i : Nat) (b : Nat × Nat × Array Value), l[i]? = some b → e ≠ b.2.1) : Bks n w0 W' l :=
  ⟨fun i b hi => blk_grown (h.blk i b hi) hg (Kd.R_ne hR (h.blk i b hi) (ht i b hi)), h.ne, h.ge, hb⟩
theorem Bks.grown2 {α : Type} {d : Kd α} {e : Nat} {n : Nat} {w0 W W' : World} {g t g' t' : Nat} {cs cs' : Array Value} (h : Bks n w0 W [(g, t, cs), (g', t', cs')]) {base : Nat} {ok : Nat → Prop} {v : Value} {xs : List α} (hR : d.R e W base ok v xs) (hg : W.grownBy W' v.ownBlock) (hb : Below n w0 W') (h1 : e ≠ t) (h2 : e ≠ t') : Bks n w0 W' [(g, t, cs), (g', t', cs')] :=
  h.grownH hR hg hb (fun j b hj => by
    match j, hj with
    | 0, hj => cases hj; exact h1
    | 1, hj => cases hj; exact h2
    | j + 2, hj => simp at hj)
theorem Bks.far2 {n : Nat} {w0 W : World} {g t g' t' : Nat} {cs cs' : Array Value} (h : Bks n w0 W [(g, t, cs), (g', t', cs')]) {p : Addr} (h1 : g ≠ p.block) (h2 : g' ≠ p.block) (hp : n ≤ p.block) (u : Value) : Bks n w0 (W.setCell p u) [(g, t, cs), (g', t', cs')] :=
  ⟨fun j b hj => by
    match j, hj with
    | 0, hj => cases hj; exact blk_far (h.get 0 rfl) h1 u
    | 1, hj => cases hj; exact blk_far (h.get 1 rfl) h2 u
    | j + 2, hj => simp at hj, h.ne, h.ge, h.below.setCell hp u⟩
theorem Bks.tl {n : Nat} {w0 W : World} {x : Nat × Nat × Array Value} {l : List (Nat × Nat × Array Value)} (h : Bks n w0 W (x :: l)) : Bks n w0 W l :=
  ⟨fun i b hi => h.blk (i + 1) b (by simpa using hi), fun i j b c hij hi hj => h.ne (i + 1) (j + 1) b c (by omega) (by simpa using hi) (by simpa using hj), fun i b hi => h.ge (i + 1) b (by simpa using hi), h.below⟩
/-- The precincts' bytes. -/
def hcC : Nat → List S89 → List Int → Int → Option (Int × List Int × Int)
  | 0, _, _, _ => none
  | k + 1, t, b, i => if i < (t.length : Int) then (if 0 ≤ i then (headseg_within.f k 0 15 [(rd_T89 t i).f0, (rd_T89 t i).f1]).bind fun c => (if c = true then (if b.length < 1000000 then hcC k t (b ++ [wrap64 ((rd_T89 t i).f0 + wrap64 (16 * (rd_T89 t i).f1)) % 256]) (wrap64 (i + 1)) else none) else some (0, [], 2)) else none) else some (65442, b, 0)
/-- The numbers' bytes. -/
def hcB : Nat → List S89 → List Int → List Int → Int → Option (Int × List Int × Int)
  | 0, _, _, _, _ => none
  | k + 1, t, L, b, i => if i < (L.length : Int) then (if 0 ≤ i then (if b.length < 1000000 then hcB k t L (b ++ [rd L i % 256]) (wrap64 (i + 1)) else none) else none) else hcC k t b 0
/-- The flags. -/
def hcA : Nat → List S89 → List Bool → List Int → Int → Option (Int × List Int × Int)
  | 0, _, _, _, _ => none
  | k + 1, t, fl, L, i => if i < 8 then (if 0 ≤ i then (if bat fl i = true then hcA k t fl (L.set 7 (Go.bits .or .i64 (rd L 7) (wrap64 (2 ^ min i.toNat 64)))) (wrap64 (i + 1)) else hcA k t fl L (wrap64 (i + 1))) else none) else hcB k t (L ++ [(t.length : Int)]) [] 0
theorem hcC.mono : ∀ k t b i, LeO (hcC k t b i) (hcC (k + 1) t b i)
  | 0, _, _, _ => LeO.none _
  | k + 1, t, b, i => by
    rw [hcC.eq_2, hcC.eq_2]
    exact LeO.ite (LeO.ite (LeO.bind (headseg_within.mono _ _ _ _) fun _ => LeO.ite (LeO.ite (hcC.mono _ _ _ _) (LeO.refl _)) (LeO.refl _)) (LeO.refl _)) (LeO.refl _)
theorem hcB.mono : ∀ k t L b i, LeO (hcB k t L b i) (hcB (k + 1) t L b i)
  | 0, _, _, _, _ => LeO.none _
  | k + 1, t, L, b, i => by
    rw [hcB.eq_2, hcB.eq_2]
    exact LeO.ite (LeO.ite (LeO.ite (hcB.mono _ _ _ _ _) (LeO.refl _)) (LeO.refl _)) (hcC.mono _ _ _ _)
theorem hcA.mono : ∀ k t fl L i, LeO (hcA k t fl L i) (hcA (k + 1) t fl L i)
  | 0, _, _, _, _ => LeO.none _
  | k + 1, t, fl, L, i => by
    rw [hcA.eq_2, hcA.eq_2]
    exact LeO.ite (LeO.ite (LeO.ite (hcA.mono _ _ _ _ _) (hcA.mono _ _ _ _ _)) (LeO.refl _)) (hcB.mono _ _ _ _ _)

def headseg_Coding.f (k : Nat) (a0_0 : Int) (a0_1 : Int) (a0_2 : Int) (a0_3 : Int) (a0_4 : Int) (l0_5 : List (S89)) (a0_6 : Int) (a0_7 : Int) (a0_8 : Bool) (a0_9 : Bool) (a0_10 : Bool) (a0_11 : Bool) (a0_12 : Bool) (a0_13 : Bool) (a0_14 : Bool) (a0_15 : Bool) (l0_16 : List Int) (a0_17 : Int) (a0_18 : Int) : Option (Int × List Int × Int) :=
  (headseg_within.f k 0 255 [a0_0, a0_1, a0_2, a0_3, a0_4, a0_6, a0_7, 0, a0_18]).bind fun c => if c = true then (if (l0_5.length : Int) > 255 then some (0, [], 2) else hcA k l0_5 [a0_8, a0_9, a0_10, a0_11, a0_12, a0_13, a0_14, a0_15] [a0_0, a0_1, a0_2, a0_3, a0_4, a0_6, a0_7, 0, a0_18] 0) else some (0, [], 2)
theorem headseg_Coding.mono : ∀ a0 a1 a2 a3 a4 a5 a6 a7 a8 a9 a10 a11 a12 a13 a14 a15 a16 a17 a18 k, LeO (headseg_Coding.f k a0 a1 a2 a3 a4 a5 a6 a7 a8 a9 a10 a11 a12 a13 a14 a15 a16 a17 a18) (headseg_Coding.f (k + 1) a0 a1 a2 a3 a4 a5 a6 a7 a8 a9 a10 a11 a12 a13 a14 a15 a16 a17 a18) := by
  intro a0 a1 a2 a3 a4 a5 a6 a7 a8 a9 a10 a11 a12 a13 a14 a15 a16 a17 a18 k
  exact LeO.bind (headseg_within.mono _ _ _ _) (fun _ => LeO.ite (LeO.ite (LeO.refl _) (hcA.mono _ _ _ _ _)) (LeO.refl _))
set_option maxHeartbeats 8000000 in
set_option maxRecDepth 100000 in
theorem headseg_Coding.calls (k : Nat) (a0_0 : Int) (a0_1 : Int) (a0_2 : Int) (a0_3 : Int) (a0_4 : Int) (A0_5 : Option Addr) (c0_5 : Nat) (l0_5 : List (S89)) (a0_6 : Int) (a0_7 : Int) (a0_8 : Bool) (a0_9 : Bool) (a0_10 : Bool) (a0_11 : Bool) (a0_12 : Bool) (a0_13 : Bool) (a0_14 : Bool) (a0_15 : Bool) (A0_16 : Option Addr) (c0_16 : Nat) (l0_16 : List Int) (a0_17 : Int) (a0_18 : Int) (r1 : Int) (r2 : List Int) (r3 : Int) (w : World) (hr0_5 : Kd.C k89 w A0_5 l0_5.length l0_5) (hc0_5 : l0_5.length ≤ c0_5) (hr0_16 : Kd.C (Kd.int .i64) w A0_16 l0_16.length l0_16) (hc0_16 : l0_16.length ≤ c0_16) (h : headseg_Coding.f k a0_0 a0_1 a0_2 a0_3 a0_4 l0_5 a0_6 a0_7 a0_8 a0_9 a0_10 a0_11 a0_12 a0_13 a0_14 a0_15 l0_16 a0_17 a0_18 = some (r1, r2, r3)) :
    Calls Try.prog 33 #[.agg #[.int .i64 a0_0, .int .i64 a0_1, .int .i64 a0_2, .int .i64 a0_3, .int .i64 a0_4, .slice A0_5 l0_5.length c0_5, .int .i64 a0_6, .int .i64 a0_7, .bool a0_8, .bool a0_9, .bool a0_10, .bool a0_11, .bool a0_12, .bool a0_13, .bool a0_14, .bool a0_15, .slice A0_16 l0_16.length c0_16, .int .i64 a0_17, .int .i64 a0_18]] w fun e w' => ∃ v1_ : Value, e = .returned (.tuple #[.agg #[.int .i64 r1, v1_], .int .i64 r3]) ∧ Kd.R (Kd.int .u8) 5 w' w.heap.size (fun _ => True) v1_ r2 ∧ Below w.heap.size w w' := by
  unfold headseg_Coding.f at h
  obtain ⟨c1, hc1, h⟩ := Option.bind_eq_some_iff.mp h
  have H := Aside0.mk h
  have HW := Aside0.mk hc1
  have HR5 := Aside0.mk hr0_5
  have HR16 := Aside0.mk hr0_16
  have HC5 := Aside0.mk hc0_5
  have HC16 := Aside0.mk hc0_16
  clear h hc1 hr0_5 hr0_16 hc0_5 hc0_16
  have K00 := Aside0.mk (Bks.nil w)
  go_enter Try.func33, Try.ntmps33
  go_wp2_with (first
    | ((with_reducible refine gate_dst (N := 1) rfl ?_); refine box_event ?hg (N := 1) ?hd (cs := #[.int .i64 a0_0, .int .i64 a0_1, .int .i64 a0_2, .int .i64 a0_3, .int .i64 a0_4, .slice A0_5 l0_5.length c0_5, .int .i64 a0_6, .int .i64 a0_7, .bool a0_8, .bool a0_9, .bool a0_10, .bool a0_11, .bool a0_12, .bool a0_13, .bool a0_14, .bool a0_15, .slice A0_16 l0_16.length c0_16, .int .i64 a0_17, .int .i64 a0_18]) (t := 55) ?hr ?_; (case hd => rfl); (case hg => rfl); (case hr => first | (go_simp; done) | (go_simp; rfl)); intro g1 hg W1 hbox hb; have K0 := Aside0.mk (K00.out.box (Nat.le_refl _) hg hbox hb); clear hg hbox hb K00)
    | ((with_reducible refine gate_dst (N := 2) rfl ?_); refine box_event ?hg (N := 2) ?hd (cs := #[.int .i64 0, .slice none 0 0]) (t := 26) ?hr ?_; (case hd => rfl); (case hg => rfl); (case hr => first | (go_simp; done) | (go_simp; rfl)); intro g2 hg W2 hbox hb; have K1 := Aside0.mk (K0.out.box (below_size K0.out.below) hg hbox hb); clear hg hbox hb K0; have f0 : W2.cell? ⟨g1, 0, none⟩ = some (.int .i64 a0_0) := K1.out.cell 1 rfl 0 rfl; have f1 : W2.cell? ⟨g1, 1, none⟩ = some (.int .i64 a0_1) := K1.out.cell 1 rfl 1 rfl; have f2 : W2.cell? ⟨g1, 2, none⟩ = some (.int .i64 a0_2) := K1.out.cell 1 rfl 2 rfl; have f3 : W2.cell? ⟨g1, 3, none⟩ = some (.int .i64 a0_3) := K1.out.cell 1 rfl 3 rfl; have f4 : W2.cell? ⟨g1, 4, none⟩ = some (.int .i64 a0_4) := K1.out.cell 1 rfl 4 rfl; have f6 : W2.cell? ⟨g1, 6, none⟩ = some (.int .i64 a0_6) := K1.out.cell 1 rfl 6 rfl; have f7 : W2.cell? ⟨g1, 7, none⟩ = some (.int .i64 a0_7) := K1.out.cell 1 rfl 7 rfl; have f18 : W2.cell? ⟨g1, 18, none⟩ = some (.int .i64 a0_18) := K1.out.cell 1 rfl 18 rfl)
    | ((with_reducible refine gate_dst (N := 28) rfl ?_); refine Kd.R_lit (Kd.int .i64) (w0 := W2) W2.heap.size 3 ?hg (N := 28) ?hd (xs := ([a0_0, a0_1, a0_2, a0_3, a0_4, a0_6, a0_7, 0, a0_18] : List Int)) (inner := [.int .i64 a0_0, .int .i64 a0_1, .int .i64 a0_2, .int .i64 a0_3, .int .i64 a0_4, .int .i64 a0_6, .int .i64 a0_7, .int .i64 0, .int .i64 a0_18]) (ok := fun _ => True) (okp := fun _ => True) ?hr ?hp (fun _ hk => hk) trivial (Below.refl _ _) (Nat.le_refl _) (by simp) ?_; (case hd => rfl); (case hg => rfl); (case hr => first | (go_simp; done) | (go_simp; rfl)); (case hp => exact (Reps.one (show Kd.M (Kd.int .i64) _ _ _ a0_0 [.int .i64 a0_0] from rfl) (Reps.one (show Kd.M (Kd.int .i64) _ _ _ a0_1 [.int .i64 a0_1] from rfl) (Reps.one (show Kd.M (Kd.int .i64) _ _ _ a0_2 [.int .i64 a0_2] from rfl) (Reps.one (show Kd.M (Kd.int .i64) _ _ _ a0_3 [.int .i64 a0_3] from rfl) (Reps.one (show Kd.M (Kd.int .i64) _ _ _ a0_4 [.int .i64 a0_4] from rfl) (Reps.one (show Kd.M (Kd.int .i64) _ _ _ a0_6 [.int .i64 a0_6] from rfl) (Reps.one (show Kd.M (Kd.int .i64) _ _ _ a0_7 [.int .i64 a0_7] from rfl) (Reps.one (show Kd.M (Kd.int .i64) _ _ _ 0 [.int .i64 0] from rfl) (Reps.one (show Kd.M (Kd.int .i64) _ _ _ a0_18 [.int .i64 a0_18] from rfl) (Reps.none _ _))))))))))); intro v1 w3 ho hb hg_ hnew_; have HL := Aside0.mk (Kd.R_lower ho (below_size K1.out.below)); have K2 := Aside0.mk (K1.out.call (below_size K1.out.below) hb); clear hg_ hnew_ ho hb f0 f1 f2 f3 f4 f6 f7 f18)
    | (go_at_call 43; fail))
  obtain ⟨gL, cL, e9, -⟩ := Kd.R_form HL.out (by simp)
  replace e9 : v1 = .slice (some ⟨gL, 0, none⟩) 9 cL := e9
  subst e9
  refine (headseg_within.calls k 0 255 (some ⟨gL, 0, none⟩) cL [a0_0, a0_1, a0_2, a0_3, a0_4, a0_6, a0_7, 0, a0_18] c1 _ (Kd.R_reads' HL.out).2.2 (Kd.R_reads' HL.out).2.1 HW.out).mono ?_
  rintro _ w4 ⟨rfl, hd⟩
  have K3 := Aside0.mk (K2.out.call (below_size K2.out.below) hd.below)
  have HL3 := Aside0.mk (Kd.R_below HL.out hd.below)
  clear K2 HL hd HW
  have hs := H.out
  clear H
  cases c1 with
  | false =>
    rw [if_neg (by simp)] at hs
    simp only [Option.some.injEq, Prod.mk.injEq] at hs
    obtain ⟨rfl, rfl, rfl⟩ := hs
    go_wp2_with (refine store_ev rfl rfl 26 (.tmp 2) (.tmp 38) rfl rfl rfl (K3.out.get 0 rfl) rfl rfl (by first | (kernel_rfl) | (simp [Value.oneCell'])) ?_; intro W8 hs; have K7 := Aside0.mk (K3.out.stored 0 rfl hs); clear hs)
    refine bodyPost_ret (results_ct rfl _ _ g2 26 _ (0, 0) _ rfl (K7.out.get 0 rfl) Try.underlying26 rfl (by kernel_rfl)) rfl ?_
    exact ⟨_, rfl, Kd.R_nil (Kd.int .u8) 5 _ _ _, K7.out.below⟩
  | true =>
  rw [if_pos rfl] at hs
  have f5 : w4.cell? ⟨g1, 5, none⟩ = some (.slice A0_5 l0_5.length c0_5) := K3.out.cell 1 rfl 5 rfl
  by_cases h2 : (l0_5.length : Int) > 255
  · rw [if_pos h2] at hs
    simp only [Option.some.injEq, Prod.mk.injEq] at hs
    obtain ⟨rfl, rfl, rfl⟩ := hs
    have hb0 : decide (255 < (l0_5.length : Int)) = true := decide_eq_true h2
    have hb1 : decide (255 < l0_5.length) = true := decide_eq_true (by omega)
    clear h2
    go_wp2_with (refine store_ev rfl rfl 26 (.tmp 2) (.tmp 38) rfl rfl rfl (K3.out.get 0 rfl) rfl rfl (by first | (kernel_rfl) | (simp [Value.oneCell'])) ?_; intro W8 hs; have K7 := Aside0.mk (K3.out.stored 0 rfl hs); clear hs)
    refine bodyPost_ret (results_ct rfl _ _ g2 26 _ (0, 0) _ rfl (K7.out.get 0 rfl) Try.underlying26 rfl (by kernel_rfl)) rfl ?_
    exact ⟨_, rfl, Kd.R_nil (Kd.int .u8) 5 _ _ _, K7.out.below⟩
  rw [if_neg h2] at hs
  have hb0 : decide (255 < (l0_5.length : Int)) = false := decide_eq_false h2
  have hb1 : decide (255 < l0_5.length) = false := decide_eq_false (by omega)
  have HX := Aside0.mk hs
  have H255 := Aside0.mk h2
  clear h2 hs
  go_wp2_with (first
    | ((with_reducible refine gate_dst (N := 39) rfl ?_); refine load_ev rfl 55 (.tmp 1) rfl rfl (K3.out.get 1 rfl) Try.underlying55 rfl ?_)
    | (go_at_call 56; fail))
  refine (headseg_flags.calls _ _ _ _ _ _ _ _ _ _ _ a0_8 a0_9 a0_10 a0_11 a0_12 a0_13 a0_14 a0_15 _).mono ?_
  rintro _ w5 ⟨rfl, hd⟩
  have K4 := Aside0.mk (K3.out.call (below_size K3.out.below) hd)
  have HL4 := Aside0.mk (Kd.R_below HL3.out hd)
  clear K3 HL3 hd f5 hb0 hb1
  go_wp2
  go_loopg [41] k (fun kq v41 w' => ∃ (i : Int) (L : List Int), v41 = .int .i64 i ∧ Aside0 (L.length = 9) ∧ Aside0 (hcA kq l0_5 [a0_8, a0_9, a0_10, a0_11, a0_12, a0_13, a0_14, a0_15] L i = some (r1, r2, r3)) ∧ Aside0 (Bks w.heap.size w w' [(g2, 26, #[.int .i64 0, .slice none 0 0]), (g1, 55, #[.int .i64 a0_0, .int .i64 a0_1, .int .i64 a0_2, .int .i64 a0_3, .int .i64 a0_4, .slice A0_5 l0_5.length c0_5, .int .i64 a0_6, .int .i64 a0_7, .bool a0_8, .bool a0_9, .bool a0_10, .bool a0_11, .bool a0_12, .bool a0_13, .bool a0_14, .bool a0_15, .slice A0_16 l0_16.length c0_16, .int .i64 a0_17, .int .i64 a0_18])]) ∧ Aside0 (Kd.R (Kd.int .i64) 3 w' w.heap.size (fun _ => True) (.slice (some ⟨gL, 0, none⟩) 9 cL) L))
  case atStart => exact ⟨0, [a0_0, a0_1, a0_2, a0_3, a0_4, a0_6, a0_7, 0, a0_18], rfl, ⟨rfl⟩, HX, K4, HL4⟩
  case round =>
  clear HX K4 HL4
  obtain ⟨i, L, rfl, HN, HX, K, HL⟩ := hrel
  cases gk with
  | zero => exact absurd HX.out (by simp [hcA])
  | succ kk =>
  have hs := HX.out
  clear HX
  rw [hcA.eq_2] at hs
  by_cases hi : i < 8
  rotate_left
  · rw [if_neg hi] at hs
    have HX := Aside0.mk hs
    have hb0 : decide (i < 8) = false := decide_eq_false hi
    clear hs hi
    have f5 : wr.cell? ⟨g1, 5, none⟩ = some (.slice A0_5 l0_5.length c0_5) := K.out.cell 1 rfl 5 rfl
    obtain ⟨L', hL'⟩ : ∃ L' : List Int, L' = L ++ [(l0_5.length : Int)] := ⟨_, rfl⟩
    rw [← hL'] at HX
    have NL := Aside0.mk hL'
    clear hL'
    go_wp2_with (first
      | ((with_reducible refine gate_builtin (b := .append) (xs := #[.tmp 55, .tmp 59]) rfl ?_); at_builtin; refine Kd.R_append (Kd.int .i64) (w0 := w) w.heap.size rfl (.tmp 55) (.tmp 59) 39 3 (.int .i64 0) 8 rfl Try.underlying39 info3 rfl (by decide) (by omega) (.slice (some ⟨gL, 0, none⟩) 9 cL) L (l0_5.length : Int) [.int .i64 (l0_5.length : Int)] (fun _ => True) (fun _ => False) rfl rfl ?aP (fun _ hk => hk.elim) ?aF ?aO ?aB ?aS ?aL ?_; (case aP => exact rfl); (case aF => exact fun k hk => trivial); (case aO => exact HL.out); (case aB => exact K.out.below); (case aS => exact below_size K.out.below); (case aL => have := HN.out; omega); intro v2 w7 ho hb hg hat; rw [← NL.out] at ho; have K5 := Aside0.mk (K.out.grown2 HL.out hg hb (by decide) (by decide)); have HL5 := Aside0.mk ho; clear K HL ho hb hg hat f5; obtain ⟨AL, cL', rfl⟩ := Kd.R_slice HL5.out))
    go_loopg [7, 62] kk (fun kq v7 v62 w' => ∃ (i : Int) (b : List Int), v62 = .int .i64 i ∧ Aside0 (hcB kq l0_5 L' b i = some (r1, r2, r3)) ∧ Aside0 (Bks w.heap.size w w' [(g2, 26, #[.int .i64 0, .slice none 0 0]), (g1, 55, #[.int .i64 a0_0, .int .i64 a0_1, .int .i64 a0_2, .int .i64 a0_3, .int .i64 a0_4, .slice A0_5 l0_5.length c0_5, .int .i64 a0_6, .int .i64 a0_7, .bool a0_8, .bool a0_9, .bool a0_10, .bool a0_11, .bool a0_12, .bool a0_13, .bool a0_14, .bool a0_15, .slice A0_16 l0_16.length c0_16, .int .i64 a0_17, .int .i64 a0_18])]) ∧ Aside0 (Kd.R (Kd.int .i64) 3 w' w.heap.size (fun _ => True) (.slice AL L'.length cL') L') ∧ Aside0 (Kd.R (Kd.int .u8) 5 w' w.heap.size (fun _ => True) v7 b))
    case atStart => exact ⟨0, [], rfl, HX, K5, HL5, ⟨Kd.R_nil _ _ _ _ _⟩⟩
    case round =>
    clear HX K5 HL5 hb0
    obtain ⟨i, b, rfl, HX, K, HL, HO⟩ := hrel
    cases gk with
    | zero => exact absurd HX.out (by simp [hcB])
    | succ kj =>
    have hs := HX.out
    clear HX
    rw [hcB.eq_2] at hs
    by_cases hi : i < (L'.length : Int)
    rotate_left
    · rw [if_neg hi] at hs
      have HX := Aside0.mk hs
      have hb0 : decide (i < (L'.length : Int)) = false := decide_eq_false hi
      clear hs hi
      have f5 : wr.cell? ⟨g1, 5, none⟩ = some (.slice A0_5 l0_5.length c0_5) := K.out.cell 1 rfl 5 rfl
      go_wp2
      have h5 : l0_5.length ≤ 9223372036854775807 := HR5.out.2.1
      have H5 := Aside0.mk h5
      clear h5
      go_loopg [7, 75] kj (fun kq v7 v75 w' => ∃ (i : Int) (b : List Int), v75 = .int .i64 i ∧ Aside0 (hcC kq l0_5 b i = some (r1, r2, r3)) ∧ Aside0 (Bks w.heap.size w w' [(g2, 26, #[.int .i64 0, .slice none 0 0]), (g1, 55, #[.int .i64 a0_0, .int .i64 a0_1, .int .i64 a0_2, .int .i64 a0_3, .int .i64 a0_4, .slice A0_5 l0_5.length c0_5, .int .i64 a0_6, .int .i64 a0_7, .bool a0_8, .bool a0_9, .bool a0_10, .bool a0_11, .bool a0_12, .bool a0_13, .bool a0_14, .bool a0_15, .slice A0_16 l0_16.length c0_16, .int .i64 a0_17, .int .i64 a0_18])]) ∧ Aside0 (Kd.R (Kd.int .u8) 5 w' w.heap.size (fun _ => True) v7 b))
      case atStart => exact ⟨0, b, rfl, HX, K, HO⟩
      case round =>
      clear HX K HL HO hb0 f5
      obtain ⟨i, b, rfl, HX, K, HO⟩ := hrel
      cases gk with
      | zero => exact absurd HX.out (by simp [hcC])
      | succ km =>
      have hs := HX.out
      clear HX
      rw [hcC.eq_2] at hs
      by_cases hi : i < (l0_5.length : Int)
      rotate_left
      · rw [if_neg hi] at hs
        have hb0 : decide (i < (l0_5.length : Int)) = false := decide_eq_false hi
        simp only [Option.some.injEq, Prod.mk.injEq] at hs
        obtain ⟨rfl, rfl, rfl⟩ := hs
        clear hi
        obtain ⟨Ab, cb, rfl⟩ := Kd.R_slice HO.out
        go_wp2_with (refine store_ev rfl rfl 26 (.tmp 2) (.tmp 99) rfl rfl rfl (K.out.get 0 rfl) rfl rfl (by first | (kernel_rfl) | (simp [Value.oneCell'])) ?_; intro W8 hs; have K7 := Aside0.mk (K.out.stored 0 rfl hs); have HO7 := Aside0.mk (row_stored HO.out (K.out.get 0 rfl) (by decide) hs); clear hs)
        refine bodyPost_ret (results_ct rfl _ _ g2 26 _ (0, 0) _ rfl (K7.out.get 0 rfl) Try.underlying26 rfl (by kernel_rfl)) rfl ?_
        exact ⟨_, rfl, HO7.out, K7.out.below⟩
      rw [if_pos hi] at hs
      by_cases hi0 : 0 ≤ i
      rotate_left
      · rw [if_neg hi0] at hs
        cases hs
      rw [if_pos hi0] at hs
      obtain ⟨c, hin, hs⟩ := Option.bind_eq_some_iff.mp hs
      have HI := Aside0.mk hin
      have HX := Aside0.mk hs
      have hb0 : decide (i < (l0_5.length : Int)) = true := decide_eq_true hi
      obtain ⟨ad, e0, x0, x1⟩ := at_T89 (Kd.C_below HR5.out K.out.below) i hi0 hi
      cases e0
      have p0 : (0 ≤ i) = True := eq_true hi0
      have p1 : (i < (l0_5.length : Int)) = True := eq_true hi
      clear hs hin hi hi0
      go_wp2_with (first
        | ((with_reducible refine gate_dst (N := 11) rfl ?_); refine box_event ?hg (N := 11) ?hd (cs := #[.int .i64 0, .int .i64 0]) (t := 89) ?hr ?_; (case hd => rfl); (case hg => rfl); (case hr => first | (go_simp; done) | (go_simp; rfl)); intro g11 hg W11 hbox hb; have K5 := Aside0.mk (K.out.box (below_size K.out.below) hg hbox hb); have HO5 := Aside0.mk (Kd.R_below HO.out hb); clear hg hbox hb x0 x1)
        | (refine store_ev rfl rfl 89 (.tmp 11) (.tmp 78) rfl rfl rfl (K5.out.get 0 rfl) rfl rfl (by first | (kernel_rfl) | (simp [Value.oneCell'])) ?_; intro W6 hs; have K6 := Aside0.mk (K5.out.stored 0 rfl hs); have HO6 := Aside0.mk (row_stored HO5.out (K5.out.get 0 rfl) (by decide) hs); clear hs; have q0 : W6.cell? ⟨g11, 0, none⟩ = some (.int .i64 (rd_T89 l0_5 i).f0) := K6.out.cell 0 rfl 0 rfl; have q1 : W6.cell? ⟨g11, 1, none⟩ = some (.int .i64 (rd_T89 l0_5 i).f1) := K6.out.cell 0 rfl 1 rfl)
        | ((with_reducible refine gate_dst (N := 83) rfl ?_); refine Kd.R_lit (Kd.int .i64) (w0 := W6) W6.heap.size 3 ?hg (N := 83) ?hd (xs := ([(rd_T89 l0_5 i).f0, (rd_T89 l0_5 i).f1] : List Int)) (inner := [.int .i64 (rd_T89 l0_5 i).f0, .int .i64 (rd_T89 l0_5 i).f1]) (ok := fun _ => True) (okp := fun _ => True) ?hr ?hp (fun _ hk => hk) trivial (Below.refl _ _) (Nat.le_refl _) (by simp) ?_; (case hd => rfl); (case hg => rfl); (case hr => first | (go_simp; done) | (go_simp; rfl)); (case hp => exact (Reps.one (show Kd.M (Kd.int .i64) _ _ _ (rd_T89 l0_5 i).f0 [.int .i64 (rd_T89 l0_5 i).f0] from rfl) (Reps.one (show Kd.M (Kd.int .i64) _ _ _ (rd_T89 l0_5 i).f1 [.int .i64 (rd_T89 l0_5 i).f1] from rfl) (Reps.none _ _)))); intro v1 w8 ho hb hg_ hnew_; have HM := Aside0.mk ho; have K7 := Aside0.mk (K6.out.call (below_size K6.out.below) hb); have HO7 := Aside0.mk (Kd.R_below HO6.out hb); clear hg_ hnew_ ho hb q0 q1)
        | (go_at_call 43; fail))
      obtain ⟨AM, cM, e9⟩ := Kd.R_slice HM.out
      replace e9 : v1 = .slice AM 2 cM := e9
      subst e9
      refine (headseg_within.calls km 0 15 AM cM [(rd_T89 l0_5 i).f0, (rd_T89 l0_5 i).f1] c _ (Kd.R_reads' HM.out).2.2 (Kd.R_reads' HM.out).2.1 HI.out).mono ?_
      rintro _ w9 ⟨rfl, hd⟩
      have K8 := Aside0.mk (K7.out.call (below_size K7.out.below) hd.below)
      have HO8 := Aside0.mk (Kd.R_below HO7.out hd.below)
      have hs := HX.out
      clear K5 HO5 K6 HO6 K7 HO7 HM hd HX K HO
      cases c with
      | false =>
        rw [if_neg (by simp)] at hs
        simp only [Option.some.injEq, Prod.mk.injEq] at hs
        obtain ⟨rfl, rfl, rfl⟩ := hs
        have K9 := Aside0.mk K8.out.tl
        clear K8
        go_wp2_with (refine store_ev rfl rfl 26 (.tmp 2) (.tmp 86) rfl rfl rfl (K9.out.get 0 rfl) rfl rfl (by first | (kernel_rfl) | (simp [Value.oneCell'])) ?_; intro W8 hs; have K7 := Aside0.mk (K9.out.stored 0 rfl hs); clear hs)
        refine bodyPost_ret (results_ct rfl _ _ g2 26 _ (0, 0) _ rfl (K7.out.get 0 rfl) Try.underlying26 rfl (by kernel_rfl)) rfl ?_
        exact ⟨_, rfl, Kd.R_nil (Kd.int .u8) 5 _ _ _, K7.out.below⟩
      | true =>
      rw [if_pos rfl] at hs
      by_cases hlim : b.length < 1000000
      rotate_left
      · rw [if_neg hlim] at hs
        cases hs
      rw [if_pos hlim] at hs
      have HX := Aside0.mk hs
      have HLIM := Aside0.mk hlim
      clear hs hlim
      obtain ⟨AO, cO, rfl⟩ := Kd.R_slice HO8.out
      have q0 : w9.cell? ⟨g11, 0, none⟩ = some (.int .i64 (rd_T89 l0_5 i).f0) := K8.out.cell 0 rfl 0 rfl
      have q1 : w9.cell? ⟨g11, 1, none⟩ = some (.int .i64 (rd_T89 l0_5 i).f1) := K8.out.cell 0 rfl 1 rfl
      have K9 := Aside0.mk K8.out.tl
      clear K8
      go_wp2_with (first
        | ((with_reducible refine gate_builtin (b := .append) (xs := #[.tmp 87, .tmp 95]) rfl ?_); at_builtin; refine Kd.R_append (Kd.int .u8) (w0 := w) w.heap.size rfl (.tmp 87) (.tmp 95) 24 5 (.int .u8 0) 1 rfl Try.underlying24 info5 rfl (by decide) (by omega) (.slice AO b.length cO) b (wrap64 ((rd_T89 l0_5 i).f0 + wrap64 (16 * (rd_T89 l0_5 i).f1)) % 256) [.int .u8 (wrap64 ((rd_T89 l0_5 i).f0 + wrap64 (16 * (rd_T89 l0_5 i).f1)) % 256)] (fun _ => True) (fun _ => False) rfl rfl ?aP (fun _ hk => hk.elim) ?aF ?aO ?aB ?aS ?aL ?_; (case aP => exact rfl); (case aF => exact fun k hk => trivial); (case aO => exact HO8.out); (case aB => exact K9.out.below); (case aS => exact below_size K9.out.below); (case aL => have := HLIM.out; omega); intro v2 w10 ho hb hg hat; have K10 := Aside0.mk (K9.out.grown2 HO8.out hg hb (by decide) (by decide)); have HO10 := Aside0.mk ho; clear ho hb hg hat q0 q1))
      go_roundg km
      case measure => omega
      case rel => exact ⟨_, _, rfl, HX, K10, HO10⟩
    rw [if_pos hi] at hs
    by_cases hi0 : 0 ≤ i
    rotate_left
    · rw [if_neg hi0] at hs
      cases hs
    rw [if_pos hi0] at hs
    by_cases hlim : b.length < 1000000
    rotate_left
    · rw [if_neg hlim] at hs
      cases hs
    rw [if_pos hlim] at hs
    have HX := Aside0.mk hs
    have HLIM := Aside0.mk hlim
    obtain ⟨ad, e0, hx⟩ := Kd.at_int (Kd.R_reads' HL.out).2.2 i hi0 hi
    have EA := Aside0.mk e0
    have hb0 : decide (i < (L'.length : Int)) = true := decide_eq_true hi
    have p0 : (0 ≤ i) = True := eq_true hi0
    have p1 : (i < (L'.length : Int)) = True := eq_true hi
    clear hs hi hi0 hlim
    obtain ⟨AO, cO, rfl⟩ := Kd.R_slice HO.out
    subst e0
    go_wp2_with (first
      | ((with_reducible refine gate_builtin (b := .append) (xs := #[.tmp 66, .tmp 69]) rfl ?_); at_builtin; refine Kd.R_append (Kd.int .u8) (w0 := w) w.heap.size rfl (.tmp 66) (.tmp 69) 24 5 (.int .u8 0) 1 rfl Try.underlying24 info5 rfl (by decide) (by omega) (.slice AO b.length cO) b (rd L' i % 256) [.int .u8 (rd L' i % 256)] (fun _ => True) (fun _ => False) rfl rfl ?aP (fun _ hk => hk.elim) ?aF ?aO ?aB ?aS ?aL ?_; (case aP => exact rfl); (case aF => exact fun k hk => trivial); (case aO => exact HO.out); (case aB => exact K.out.below); (case aS => exact below_size K.out.below); (case aL => have := HLIM.out; omega); intro v2 w7 ho hb hg hat; have K6 := Aside0.mk (K.out.grown2 HO.out hg hb (by decide) (by decide)); have HL6 := Aside0.mk (Kd.R_over HL.out HO.out (by decide) hg); have HO6 := Aside0.mk ho; clear ho hb hg hat hx))
    go_roundg kj
    case measure => omega
    case rel => exact ⟨_, _, rfl, HX, K6, HL6, HO6⟩
  rw [if_pos hi] at hs
  by_cases hi0 : 0 ≤ i
  rotate_left
  · rw [if_neg hi0] at hs
    cases hs
  rw [if_pos hi0] at hs
  have hix := eight_ix a0_8 a0_9 a0_10 a0_11 a0_12 a0_13 a0_14 a0_15 i hi0 hi wr
  have hb0 : decide (i < 8) = true := decide_eq_true hi
  have hu : IntKind.u64.wrap i = i := by rw [IntKind.wrap_u64]; omega
  have p0 : (0 ≤ i) = True := eq_true hi0
  have p1 : (i < 8) = True := eq_true hi
  clear hi hi0
  generalize bat [a0_8, a0_9, a0_10, a0_11, a0_12, a0_13, a0_14, a0_15] i = bb at *
  cases bb with
  | false =>
    rw [if_neg (by simp)] at hs
    have HX := Aside0.mk hs
    clear hs
    go_wp2
    go_roundg kk
    case measure => omega
    case rel => exact ⟨_, L, rfl, HN, HX, K, HL⟩
  | true =>
  rw [if_pos rfl] at hs
  have HX := Aside0.mk hs
  clear hs
  obtain ⟨hl, hz⟩ := Kd.R_celln (0 : Int) HL.out 7 (by decide) (by decide)
  have hl7 : wr.cell? ⟨gL, 7, none⟩ = some (.int .i64 (rd L 7)) := hl
  have hz7 : wr.frozen? ⟨gL, 7, none⟩ = false := hz
  clear hl hz
  go_wp2
  have hg2 : g2 ≠ gL := fun e => Kd.R_ne HL.out (K.out.get 0 rfl) (by decide) (by rw [e]; rfl)
  have hg1 : g1 ≠ gL := fun e => Kd.R_ne HL.out (K.out.get 1 rfl) (by decide) (by rw [e]; rfl)
  have hgw : w.heap.size ≤ gL := Kd.R_base HL.out gL rfl
  go_roundg kk
  case measure => omega
  case rel => exact ⟨_, _, rfl, ⟨by rw [List.length_set]; exact HN.out⟩, HX, ⟨K.out.far2 (p := ⟨gL, 7, none⟩) hg2 hg1 hgw _⟩, ⟨Kd.R_putn HL.out 7 _⟩⟩
end Go.Proofs.Ytihfopblmjgfaaa.Q

/- A number read, or the failure; a call that may panic, in a drawn region. -/
namespace Go.Proofs.Ytihfopblmjgfaaa.Q
open Go.RowKit Go.Proofs.YtihfopblmjgfaaaW.PrintWords Go.Proofs.YtihfopblmjgfaaaW.PrintLast Go.Proofs.YtihfopblmjgfaaaW.PrintMore
set_option linter.unusedVariables false
set_option linter.unusedSimpArgs false
/-- A number is read, or the reading fails. -/
def rdn {ρ : Type} (k : Nat) (l : List Int) (p n : Int) (bad : Int → ρ) (f : Int → Option ρ) : Option ρ := (marker_ReadUint.f k l p n).bind fun q => if q.2 = 0 then f q.1 else some (bad q.2)
theorem rdn_mono {ρ : Type} (k : Nat) (l : List Int) (p n : Int) (bad : Int → ρ) {f g : Int → Option ρ} (h : ∀ x, LeO (f x) (g x)) : LeO (rdn k l p n bad f) (rdn (k + 1) l p n bad g) :=
  LeO.bind (marker_ReadUint.mono _ _ _ _) (fun q => LeO.ite (h q.1) (LeO.refl _))
/-- A call that may panic. -/
theorem goesP_ {P : Program} {ops : Array Oper} {Q : Exit → Act → World → Prop} {oi : Oper} {N : Option Tmp} {a : Act} {w : World} {K : Act → World → Prop} {f : FuncId} {fn : Func} {ars : Array Operand} {ts : Array TypeId} (hf : P.funcs[f]? = some fn) (hname : (fn.name == "runtime.NumGoroutine") = false) (hb : fn.body.isSome = true) (args : Array Value)
    (hw : Region.wanted oi (yielded ops a.tmps) = true) (hN : oi.dst = N) (hop : oi.op = .call { callee := .value (.func f), args := ars, argTypes := ts }) (hargs : ars.map a.eval = args)
    (h : Calls P f args w fun e w' => (∃ v, e = .returned v ∧ K (a.put N v) w') ∨ ∃ c, e = .panicked c ∧ Q (.panic c) a w') : if Region.wanted oi (yielded ops a.tmps) = true then Oper.wp P oi a w K Q else K (a.put N undef) w := by
  have he := enters_ hf hname hb args w
  have hrun : (execOp a.eval oi).run P w = .ok (.enter f args) w := by
    unfold execOp
    simp [hop, resolve, Deferred.ofValue, invoke, Act.eval, hargs, he]
  rw [if_pos hw]
  subst hN
  unfold Oper.wp
  rw [hrun, Oper.upon_enter]
  refine h.mono fun e w'' hh => ?_
  rcases hh with ⟨v, rfl, hk⟩ | ⟨c, rfl, hq⟩
  · exact hk
  · exact hq
end Go.Proofs.Ytihfopblmjgfaaa.Q
