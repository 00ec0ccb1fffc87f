/- Texts of this session (words and printed walks, merged by wip/tools/merge.py) for the statement of the claim. -/
import Derived.Test.YtihfopblmjgfaaaMCodings0
import Derived.Test.YtihfopblmjgfaaaProg
import Derived.Below
import Derived.Deep.Draws
import Derived.Deep.AppendLies
import Derived.Maps.AppendAt
import Derived.OwnWalk
import Derived.Laws.BytesArg
import Derived.Laws.MakeOwn
import Derived.Laws.OwnMore
import Derived.Deep.OwnRows
import Derived.Tactics
import Derived.Lib.ConvBytes
import Derived.Laws.Slices
import Derived.WalkKit
import Derived.KernelRfl
import Derived.RowKit3
import Derived.Deep.LoopGhost
import Derived.Deep.QuietTactic
import Derived.BigQuiet
import Derived.WideLaws
import Derived.Deep.DeepCutAuto
import Derived.Deep.CutBlock
import Derived.Deep.RegionHeld3
import Derived.Laws.Rows
import Derived.Lib.AppendStr
import Derived.ArgAppend
import Derived.Laws.IdiomCopy
import Derived.OrdersHeld
import Derived.Laws.BitsLemmas
import Derived.RowKit
import Derived.Defers
import Derived.Recover
import Derived.WalkSmall
import Derived.Laws.NewBlocks
import Derived.Deep.MidRow
/- Laws beside the print's words: make with a capacity of its own, make with a size of another kind, a cut with a capacity. -/
namespace Go.Proofs.YtihfopblmjgfaaaW.PrintWords
open Go.RowKit
set_option linter.unusedVariables false
namespace Kd
end Kd
end Go.Proofs.YtihfopblmjgfaaaW.PrintWords

namespace Go.Proofs.Ytihfopblmjgfaaa.Q
open Go.RowKit Go.Proofs.YtihfopblmjgfaaaW.PrintWords Go.Proofs.YtihfopblmjgfaaaW.PrintLast Go.Proofs.YtihfopblmjgfaaaW.PrintMore
attribute [local go_sem] max2_int min2_int max_two min_two max_three min_three max_four min_four   -- for this text's walks alone
set_option linter.unusedVariables false
set_option linter.unusedSimpArgs false



def errW : Option Int → Value
  | none => .nilIface
  | some c => .iface 0 (.int .i64 c)
theorem errW_none : errW none = .nilIface := rfl
theorem errW_some (c : Int) : errW (some c) = .iface 0 (.int .i64 c) := rfl

theorem info3 : (Try.prog.info? 3).map (fun i => (i.zero, i.size, i.bytes)) = some (some (.int .i64 0), 1, 8) := by kernel_rfl
theorem info4 : (Try.prog.info? 4).map (fun i => (i.zero, i.size, i.bytes)) = some (some (.bool false), 1, 1) := by kernel_rfl
theorem info5 : (Try.prog.info? 5).map (fun i => (i.zero, i.size, i.bytes)) = some (some (.int .u8 0), 1, 1) := by kernel_rfl
theorem info26 : (Try.prog.info? 26).map (fun i => (i.zero, i.size, i.bytes)) = some (some (.agg #[(.int .i64 0), (.slice none 0 0)]), 2, 32) := by kernel_rfl
theorem info89 : (Try.prog.info? 89).map (fun i => (i.zero, i.size, i.bytes)) = some (some (.agg #[(.int .i64 0), (.int .i64 0)]), 2, 16) := by kernel_rfl
theorem info97 : (Try.prog.info? 97).map (fun i => (i.zero, i.size, i.bytes)) = some (some (.agg #[(.int .i64 0), (.bool false), (.int .i64 0), (.int .i64 0)]), 4, 32) := by kernel_rfl
-- the values' own types
def rd_L2 (xs : List (List Int)) (i : Int) : (List Int) := xs.getD i.toNat ([] : List Int)
theorem at_L2 {w : World} {A : Option Addr} {n : Nat} {xs : List (List Int)} (h : Kd.C (Kd.slice 5 (Kd.int .u8)) w A n xs) (i : Int) (h0 : 0 ≤ i) (h1 : i < n) : ∃ ad A0 c0, A = some ad ∧ w.cell? (ad.add i.toNat) = some (.slice A0 (rd_L2 xs i).length c0) ∧ (rd_L2 xs i).length ≤ c0 ∧ (Kd.int .u8).C w A0 (rd_L2 xs i).length (rd_L2 xs i) := by
  obtain ⟨ad, c, e, _, hK, hc0⟩ := Kd.C_get h ([] : List Int) i h0 h1
  have hc : ∀ j u, c[j]? = some u → w.cell? (ad.add (i.toNat * 1 + j)) = some u := hc0
  obtain ⟨A0, c0, rfl, l0, g0⟩ := hK
  exact ⟨ad, A0, c0, e, by have hq := hc 0 _ rfl; rwa [Nat.mul_one, Nat.add_zero] at hq, l0, g0⟩

/-! #### struct type 26 -/
structure S26 where
  f0 : Int
  f1 : (List Int)
def z26 : S26 := ⟨(0 : Int), ([] : List Int)⟩
def k26 : Kd S26 := Kd.iso (Kd.pair (Kd.int .i64) (Kd.slice 5 (Kd.int .u8))) (fun x : S26 => (x.f0, x.f1))
theorem k26_open {w : World} {x : S26} {cs : List Value} (h : k26.K w x cs) : ∃ A1 c1, cs = [.int .i64 x.f0, .slice A1 x.f1.length c1] ∧ x.f1.length ≤ c1 ∧ (Kd.int .u8).C w A1 x.f1.length x.f1 := by
  obtain ⟨_, _, rfl, rfl, ⟨A1, c1, rfl, l1, g1⟩⟩ := h
  exact ⟨A1, c1, rfl, l1, g1⟩
theorem k26_openM {w : World} {base : Nat} {ok : Nat → Prop} {x : S26} {cs : List Value} (h : k26.M w base ok x cs) : ∃ v1, cs = [.int .i64 x.f0, v1] ∧ (Kd.int .u8).R 5 w base ok v1 x.f1 := by
  obtain ⟨_, _, rfl, rfl, ⟨v1, rfl, g1⟩⟩ := h
  exact ⟨v1, rfl, g1⟩
theorem k26_mk (w : World) (x : S26) {A1 : Option Addr} {c1 : Nat} (l1 : x.f1.length ≤ c1) (g1 : (Kd.int .u8).C w A1 x.f1.length x.f1) : k26.K w x [.int .i64 x.f0, .slice A1 x.f1.length c1] := ⟨[.int .i64 x.f0], [.slice A1 x.f1.length c1], rfl, rfl, ⟨A1, c1, rfl, l1, g1⟩⟩
theorem k26_mkM (w : World) (base : Nat) (ok : Nat → Prop) (x : S26) {v1 : Value} (g1 : (Kd.int .u8).R 5 w base ok v1 x.f1) : k26.M w base ok x [.int .i64 x.f0, v1] := ⟨[.int .i64 x.f0], [v1], rfl, rfl, ⟨v1, rfl, g1⟩⟩
theorem k26_openF {W : World} {ok : Nat → Prop} {x : S26} {cs : List Value} (h : Kd.FK k26 W ok x cs) : ∃ A1 c1, cs = [.int .i64 x.f0, .slice A1 x.f1.length c1] ∧ x.f1.length ≤ c1 ∧ Kd.F (Kd.int .u8) W ok A1 x.f1.length x.f1 := by
  obtain ⟨A1, c1, rfl, l1, _⟩ := k26_open (Kd.FK_now h)
  exact ⟨A1, c1, rfl, l1, (fun W' hW => by obtain ⟨A1_, c1_, he, l1_, g1_⟩ := k26_open (h W' hW); injection (Option.some.inj (show some (Value.slice A1 x.f1.length c1) = some (Value.slice A1_ x.f1.length c1_) from congrArg (fun l => l[1]?) he)) with ha_ _ _; rw [ha_]; exact g1_)⟩
theorem k26_mkF (W : World) (ok : Nat → Prop) (x : S26) {A1 : Option Addr} {c1 : Nat} (l1 : x.f1.length ≤ c1) (g1 : Kd.F (Kd.int .u8) W ok A1 x.f1.length x.f1) : Kd.FK k26 W ok x [.int .i64 x.f0, .slice A1 x.f1.length c1] := fun W2 hW => k26_mk W2 x l1 (g1 W2 hW)
def rd_T26 (xs : List S26) (i : Int) : S26 := xs.getD i.toNat z26
theorem at_T26 {w : World} {A : Option Addr} {n : Nat} {xs : List S26} (h : Kd.C k26 w A n xs) (i : Int) (h0 : 0 ≤ i) (h1 : i < n) : ∃ ad A1 c1, A = some ad ∧ w.cell? (ad.add (i.toNat * 2)) = some (.int .i64 (rd_T26 xs i).f0) ∧ w.cell? ⟨(ad.add (i.toNat * 2)).block, (ad.add (i.toNat * 2)).off + 1, none⟩ = some (.slice A1 (rd_T26 xs i).f1.length c1) ∧ (rd_T26 xs i).f1.length ≤ c1 ∧ (Kd.int .u8).C w A1 (rd_T26 xs i).f1.length (rd_T26 xs i).f1 := by
  obtain ⟨ad, c, e, _, hK, hc0⟩ := Kd.C_get h z26 i h0 h1
  have hc : ∀ j u, c[j]? = some u → w.cell? (ad.add (i.toNat * 2 + j)) = some u := hc0
  obtain ⟨A1, c1, rfl, l1, g1⟩ := k26_open hK
  exact ⟨ad, A1, c1, e, hc 0 _ rfl, by rw [← add_field _ _ 1 (by omega)]; exact hc 1 _ rfl, l1, g1⟩

/-! #### struct type 89 -/
structure S89 where
  f0 : Int
  f1 : Int
def z89 : S89 := ⟨(0 : Int), (0 : Int)⟩
def k89 : Kd S89 := Kd.iso (Kd.pair (Kd.int .i64) (Kd.int .i64)) (fun x : S89 => (x.f0, x.f1))
theorem k89_open {w : World} {x : S89} {cs : List Value} (h : k89.K w x cs) : cs = [.int .i64 x.f0, .int .i64 x.f1] := by
  obtain ⟨_, _, rfl, rfl, rfl⟩ := h
  exact rfl
theorem k89_openM {w : World} {base : Nat} {ok : Nat → Prop} {x : S89} {cs : List Value} (h : k89.M w base ok x cs) : cs = [.int .i64 x.f0, .int .i64 x.f1] := by
  obtain ⟨_, _, rfl, rfl, rfl⟩ := h
  exact rfl
theorem k89_mk (w : World) (x : S89)  : k89.K w x [.int .i64 x.f0, .int .i64 x.f1] := ⟨[.int .i64 x.f0], [.int .i64 x.f1], rfl, rfl, rfl⟩
theorem k89_mkM (w : World) (base : Nat) (ok : Nat → Prop) (x : S89)  : k89.M w base ok x [.int .i64 x.f0, .int .i64 x.f1] := ⟨[.int .i64 x.f0], [.int .i64 x.f1], rfl, rfl, rfl⟩
theorem k89_mkF (W : World) (ok : Nat → Prop) (x : S89) : Kd.FK k89 W ok x [.int .i64 x.f0, .int .i64 x.f1] := fun W2 _ => k89_mk W2 x
def rd_T89 (xs : List S89) (i : Int) : S89 := xs.getD i.toNat z89
theorem at_T89 {w : World} {A : Option Addr} {n : Nat} {xs : List S89} (h : Kd.C k89 w A n xs) (i : Int) (h0 : 0 ≤ i) (h1 : i < n) : ∃ ad , A = some ad ∧ w.cell? (ad.add (i.toNat * 2)) = some (.int .i64 (rd_T89 xs i).f0) ∧ w.cell? ⟨(ad.add (i.toNat * 2)).block, (ad.add (i.toNat * 2)).off + 1, none⟩ = some (.int .i64 (rd_T89 xs i).f1) := by
  obtain ⟨ad, c, e, _, hK, hc0⟩ := Kd.C_get h z89 i h0 h1
  have hc : ∀ j u, c[j]? = some u → w.cell? (ad.add (i.toNat * 2 + j)) = some u := hc0
  obtain rfl := k89_open hK
  exact ⟨ad, e, hc 0 _ rfl, by rw [← add_field _ _ 1 (by omega)]; exact hc 1 _ rfl⟩

/-! #### struct type 97 -/
structure S97 where
  f0 : Int
  f1 : Bool
  f2 : Int
  f3 : Int
def z97 : S97 := ⟨(0 : Int), false, (0 : Int), (0 : Int)⟩
def k97 : Kd S97 := Kd.iso (Kd.pair (Kd.int .i64) (Kd.pair Kd.bool (Kd.pair (Kd.int .i64) (Kd.int .i64)))) (fun x : S97 => (x.f0, x.f1, x.f2, x.f3))
theorem k97_open {w : World} {x : S97} {cs : List Value} (h : k97.K w x cs) : cs = [.int .i64 x.f0, .bool x.f1, .int .i64 x.f2, .int .i64 x.f3] := by
  obtain ⟨_, _, rfl, rfl, ⟨_, _, rfl, rfl, ⟨_, _, rfl, rfl, rfl⟩⟩⟩ := h
  exact rfl
theorem k97_openM {w : World} {base : Nat} {ok : Nat → Prop} {x : S97} {cs : List Value} (h : k97.M w base ok x cs) : cs = [.int .i64 x.f0, .bool x.f1, .int .i64 x.f2, .int .i64 x.f3] := by
  obtain ⟨_, _, rfl, rfl, ⟨_, _, rfl, rfl, ⟨_, _, rfl, rfl, rfl⟩⟩⟩ := h
  exact rfl
theorem k97_mk (w : World) (x : S97)  : k97.K w x [.int .i64 x.f0, .bool x.f1, .int .i64 x.f2, .int .i64 x.f3] := ⟨[.int .i64 x.f0], [.bool x.f1, .int .i64 x.f2, .int .i64 x.f3], rfl, rfl, ⟨[.bool x.f1], [.int .i64 x.f2, .int .i64 x.f3], rfl, rfl, ⟨[.int .i64 x.f2], [.int .i64 x.f3], rfl, rfl, rfl⟩⟩⟩
theorem k97_mkM (w : World) (base : Nat) (ok : Nat → Prop) (x : S97)  : k97.M w base ok x [.int .i64 x.f0, .bool x.f1, .int .i64 x.f2, .int .i64 x.f3] := ⟨[.int .i64 x.f0], [.bool x.f1, .int .i64 x.f2, .int .i64 x.f3], rfl, rfl, ⟨[.bool x.f1], [.int .i64 x.f2, .int .i64 x.f3], rfl, rfl, ⟨[.int .i64 x.f2], [.int .i64 x.f3], rfl, rfl, rfl⟩⟩⟩
theorem k97_mkF (W : World) (ok : Nat → Prop) (x : S97) : Kd.FK k97 W ok x [.int .i64 x.f0, .bool x.f1, .int .i64 x.f2, .int .i64 x.f3] := fun W2 _ => k97_mk W2 x
def rd_T97 (xs : List S97) (i : Int) : S97 := xs.getD i.toNat z97
theorem at_T97 {w : World} {A : Option Addr} {n : Nat} {xs : List S97} (h : Kd.C k97 w A n xs) (i : Int) (h0 : 0 ≤ i) (h1 : i < n) : ∃ ad , A = some ad ∧ w.cell? (ad.add (i.toNat * 4)) = some (.int .i64 (rd_T97 xs i).f0) ∧ w.cell? ⟨(ad.add (i.toNat * 4)).block, (ad.add (i.toNat * 4)).off + 1, none⟩ = some (.bool (rd_T97 xs i).f1) ∧ w.cell? ⟨(ad.add (i.toNat * 4)).block, (ad.add (i.toNat * 4)).off + 2, none⟩ = some (.int .i64 (rd_T97 xs i).f2) ∧ w.cell? ⟨(ad.add (i.toNat * 4)).block, (ad.add (i.toNat * 4)).off + 3, none⟩ = some (.int .i64 (rd_T97 xs i).f3) := by
  obtain ⟨ad, c, e, _, hK, hc0⟩ := Kd.C_get h z97 i h0 h1
  have hc : ∀ j u, c[j]? = some u → w.cell? (ad.add (i.toNat * 4 + j)) = some u := hc0
  obtain rfl := k97_open hK
  exact ⟨ad, e, hc 0 _ rfl, by rw [← add_field _ _ 1 (by omega)]; exact hc 1 _ rfl, by rw [← add_field _ _ 2 (by omega)]; exact hc 2 _ rfl, by rw [← add_field _ _ 3 (by omega)]; exact hc 3 _ rfl⟩

end Go.Proofs.Ytihfopblmjgfaaa.Q

namespace Go.Proofs.Ytihfopblmjgfaaa.Q
open Go.RowKit Go.Proofs.YtihfopblmjgfaaaW.PrintWords Go.Proofs.YtihfopblmjgfaaaW.PrintLast Go.Proofs.YtihfopblmjgfaaaW.PrintMore
attribute [local go_sem] max2_int min2_int max_two min_two max_three min_three max_four min_four   -- for this text's walks alone
set_option linter.unusedVariables false
set_option linter.unusedSimpArgs false

/-! ### marker_ReadUint: function 52 -/
mutual
def marker_ReadUint.j0 : Nat → List Int → Int → Int → Bool → Option (Int × Int)
  | 0, _, _, _, _ => none
  | k + 1, x0, x1, x2, x26 => if x26 = true then (some (0, 2)) else (if (wrap64 ((x0.length : Int) - x1)) < x2 then (some (0, 7)) else (if 0 ≤ x1 then (if x1 ≤ (wrap64 (x1 + x2)) then (if (wrap64 (x1 + x2)) ≤ (x0.length : Int) then (marker_ReadUint.l0 k 0 ((x0.take ((wrap64 (x1 + x2)) : Int).toNat).drop (x1 : Int).toNat) (((x0.take ((wrap64 (x1 + x2)) : Int).toNat).drop (x1 : Int).toNat).length : Int) 0) else (none)) else (none)) else (none)))
def marker_ReadUint.l0 : Nat → Int → List Int → Int → Int → Option (Int × Int)
  | 0, _, _, _, _ => none
  | k + 1, x8, x38, x39, x40 => if x40 < x39 then (if 0 ≤ x40 then (if x40 < (x38.length : Int) then (marker_ReadUint.l0 k (Go.bits .or .i64 (wrap64 (x8 * 256)) (wrap64 (rd x38 x40))) x38 x39 (wrap64 (x40 + 1))) else (none)) else (none)) else (some (x8, 0))
end
def marker_ReadUint.f (k : Nat) (l0 : List Int) (a1 : Int) (a2 : Int) : Option (Int × Int) := if a2 < 1 then (marker_ReadUint.j0 k l0 a1 a2 true) else (if a2 > 4 then (marker_ReadUint.j0 k l0 a1 a2 true) else (if a1 < 0 then (marker_ReadUint.j0 k l0 a1 a2 true) else (marker_ReadUint.j0 k l0 a1 a2 (decide (a1 > (l0.length : Int))))))
theorem marker_ReadUint.mono_l : ∀ k, (∀ y0 y1 y2 y3, LeO (marker_ReadUint.j0 k y0 y1 y2 y3) (marker_ReadUint.j0 (k + 1) y0 y1 y2 y3)) ∧ (∀ y0 y1 y2 y3, LeO (marker_ReadUint.l0 k y0 y1 y2 y3) (marker_ReadUint.l0 (k + 1) y0 y1 y2 y3))
  | 0 => ⟨fun _ _ _ _ r h => by simp [marker_ReadUint.j0] at h, fun _ _ _ _ r h => by simp [marker_ReadUint.l0] at h⟩
  | k + 1 => by
    obtain ⟨ih0, ih1⟩ := marker_ReadUint.mono_l k
    refine ⟨?_, ?_⟩
    · intro y0 y1 y2 y3
      unfold marker_ReadUint.j0
      repeat' first
      | (with_reducible exact ih0 _ _ _ _)
      | (with_reducible exact ih1 _ _ _ _)
      | (with_reducible exact LeO.refl _)
      | (with_reducible exact LeO.none _)
      | (with_reducible refine LeO.ite ?_ ?_)
      | (with_reducible refine LeO.bind ?_ (fun _ => ?_))
      | exact ih0 _ _ _ _
      | exact ih1 _ _ _ _
      | exact LeO.none _
      | refine LeO.ite ?_ ?_
      | refine LeO.bind ?_ (fun _ => ?_)
    · intro y0 y1 y2 y3
      unfold marker_ReadUint.l0
      repeat' first
      | (with_reducible exact ih0 _ _ _ _)
      | (with_reducible exact ih1 _ _ _ _)
      | (with_reducible exact LeO.refl _)
      | (with_reducible exact LeO.none _)
      | (with_reducible refine LeO.ite ?_ ?_)
      | (with_reducible refine LeO.bind ?_ (fun _ => ?_))
      | exact ih0 _ _ _ _
      | exact ih1 _ _ _ _
      | exact LeO.none _
      | refine LeO.ite ?_ ?_
      | refine LeO.bind ?_ (fun _ => ?_)
theorem marker_ReadUint.mono : ∀ a0 a1 a2 k, LeO (marker_ReadUint.f k a0 a1 a2) (marker_ReadUint.f (k + 1) a0 a1 a2) := by
  intro a0 a1 a2 k
  obtain ⟨ih0, ih1⟩ := marker_ReadUint.mono_l k
  unfold marker_ReadUint.f
  repeat' first
      | (with_reducible exact ih0 _ _ _ _)
      | (with_reducible exact ih1 _ _ _ _)
      | (with_reducible exact LeO.refl _)
      | (with_reducible exact LeO.none _)
      | (with_reducible refine LeO.ite ?_ ?_)
      | (with_reducible refine LeO.bind ?_ (fun _ => ?_))
      | exact ih0 _ _ _ _
      | exact ih1 _ _ _ _
      | exact LeO.none _
      | refine LeO.ite ?_ ?_
      | refine LeO.bind ?_ (fun _ => ?_)
set_option maxHeartbeats 8000000 in
set_option maxRecDepth 100000 in
theorem marker_ReadUint.calls (k : Nat) (A0 : Option Addr) (c0 : Nat) (l0 : List Int) (a1 : Int) (a2 : Int) (r1 : Int) (r2 : Int) (w : World) (hr0 : Kd.C (Kd.int .u8) w A0 l0.length l0) (hc0 : l0.length ≤ c0) (h : marker_ReadUint.f k l0 a1 a2 = some (r1, r2)) :
    Calls Try.prog 52 #[.slice A0 l0.length c0, .int .i64 a1, .int .i64 a2] w fun e w' => e = .returned (.tuple #[.int .i64 r1, .int .i64 r2]) ∧ Drawn0 w w' := by
  have HR0 := Aside0.mk hr0
  have HC0 := Aside0.mk hc0
  clear hr0 hc0
  have H : (if a2 < 1 then (marker_ReadUint.j0 k l0 a1 a2 true) else (if a2 > 4 then (marker_ReadUint.j0 k l0 a1 a2 true) else (if a1 < 0 then (marker_ReadUint.j0 k l0 a1 a2 true) else (marker_ReadUint.j0 k l0 a1 a2 (decide (a1 > (l0.length : Int))))))) = some (r1, r2) := h
  clear h
  have HC4 := Aside0.mk H
  clear H
  go_enter Try.func52, Try.ntmps52
  go_upto_region 1 with (fail)
  go_cut [26] (fun v26 wc => ∃ (kq : Nat) (x26_3 : Bool), v26 = .bool x26_3 ∧ Aside0 (marker_ReadUint.j0 kq l0 a1 a2 x26_3 = some (r1, r2)) ∧ Aside0 (kq ≤ k) ∧ Drawn0 w wc)
  case first =>
    have H := HC4.out
    clear HC4
    by_cases c5 : a2 < 1
    · rw [if_pos c5] at H
      have c5b0 : decide (a2 < 1) = true := decide_eq_true c5
      clear c5
      (first | rw [c5b0] | (simp only [i64_w, i32_w]; rw [c5b0]) | skip)
      have H' := Aside0.mk H
      clear H
      go_wp2
      go_meet
      case rel => exact ⟨_, (true), (by first | rfl | (simp; done) | (simp [*]; done)), H', ⟨by first | omega | exact Nat.le_refl _⟩, by repeat (first | exact Drawn0.refl _ | apply Drawn0.step)⟩
    · rw [if_neg c5] at H
      have c5b0 : decide (a2 < 1) = false := decide_eq_false c5
      clear c5
      (first | rw [c5b0] | (simp only [i64_w, i32_w]; rw [c5b0]) | skip)
      by_cases c6 : a2 > 4
      · rw [if_pos c6] at H
        have c6b0 : decide (4 < a2) = true := decide_eq_true c6
        clear c6
        have H' := Aside0.mk H
        clear H
        go_wp2
        go_meet
        case rel => exact ⟨_, (true), (by first | rfl | (simp; done) | (simp [*]; done)), H', ⟨by first | omega | exact Nat.le_refl _⟩, by repeat (first | exact Drawn0.refl _ | apply Drawn0.step)⟩
      · rw [if_neg c6] at H
        have c6b0 : decide (4 < a2) = false := decide_eq_false c6
        clear c6
        by_cases c7 : a1 < 0
        · rw [if_pos c7] at H
          have c7b0 : decide (a1 < 0) = true := decide_eq_true c7
          clear c7
          have H' := Aside0.mk H
          clear H
          go_wp2
          go_meet
          case rel => exact ⟨_, (true), (by first | rfl | (simp; done) | (simp [*]; done)), H', ⟨by first | omega | exact Nat.le_refl _⟩, by repeat (first | exact Drawn0.refl _ | apply Drawn0.step)⟩
        · rw [if_neg c7] at H
          have c7b0 : decide (a1 < 0) = false := decide_eq_false c7
          clear c7
          have H' := Aside0.mk H
          clear H
          go_wp2
          go_meet
          case rel => exact ⟨_, (decide (a1 > (l0.length : Int))), (by first | rfl | (simp; done) | (simp [*]; done)), H', ⟨by first | omega | exact Nat.le_refl _⟩, by repeat (first | exact Drawn0.refl _ | apply Drawn0.step)⟩
  case rest =>
    clear HC4
    try clear p2
    try clear c5
    try clear c5b0
    try clear c6
    try clear c6b0
    try clear c7
    try clear c7b0
    obtain ⟨kq, x26_3, rfl, HA, HJ3, ⟨mc3, rfl⟩⟩ := hcut
    cases kq with
    | zero => exact absurd HA.out (by simp [marker_ReadUint.j0])
    | succ kj3 =>
      have H := HA.out
      clear HA
      simp only [marker_ReadUint.j0] at H
      by_cases c8 : x26_3 = true
      · subst c8
        have H1 : (some (0, 2)) = some (r1, r2) := by rw [if_pos rfl] at H; exact H
        clear H
        have H := H1
        clear H1
        simp only [Option.some.injEq, Prod.mk.injEq] at H
        obtain ⟨rfl, rfl⟩ := H
        go_wp2
        go_ret2
        exact ⟨by first | rfl | (simp; done) | (simp [*]; done), by repeat (first | exact Drawn0.refl _ | apply Drawn0.step)⟩
      · replace c8 := Bool.eq_false_iff.mpr c8
        subst c8
        have H1 : (if (wrap64 ((l0.length : Int) - a1)) < a2 then (some (0, 7)) else (if 0 ≤ a1 then (if a1 ≤ (wrap64 (a1 + a2)) then (if (wrap64 (a1 + a2)) ≤ (l0.length : Int) then (marker_ReadUint.l0 kj3 0 ((l0.take ((wrap64 (a1 + a2)) : Int).toNat).drop (a1 : Int).toNat) (((l0.take ((wrap64 (a1 + a2)) : Int).toNat).drop (a1 : Int).toNat).length : Int) 0) else (none)) else (none)) else (none))) = some (r1, r2) := by rw [if_neg (show ¬ (false = true) by decide)] at H; exact H
        clear H
        have H := H1
        clear H1
        by_cases c9 : (wrap64 ((l0.length : Int) - a1)) < a2
        · rw [if_pos c9] at H
          have c9b0 : decide ((wrap64 ((l0.length : Int) - a1)) < a2) = true := decide_eq_true c9
          clear c9
          simp only [Option.some.injEq, Prod.mk.injEq] at H
          obtain ⟨rfl, rfl⟩ := H
          go_wp2
          go_ret2
          exact ⟨by first | rfl | (simp; done) | (simp [*]; done), by repeat (first | exact Drawn0.refl _ | apply Drawn0.step)⟩
        · rw [if_neg c9] at H
          have c9b0 : decide ((wrap64 ((l0.length : Int) - a1)) < a2) = false := decide_eq_false c9
          clear c9
          by_cases c10 : 0 ≤ a1
          · rw [if_pos c10] at H
            have c10b0 := eq_true c10
            have c10b1 : decide (0 ≤ a1) = true := decide_eq_true c10
            clear c10
            by_cases c11 : a1 ≤ (wrap64 (a1 + a2))
            · rw [if_pos c11] at H
              have c11b0 := eq_true c11
              have c11b1 : decide (a1 ≤ (wrap64 (a1 + a2))) = true := decide_eq_true c11
              by_cases c12 : (wrap64 (a1 + a2)) ≤ (l0.length : Int)
              · rw [if_pos c12] at H
                have c12b0 := eq_true c12
                have c12b1 : decide ((wrap64 (a1 + a2)) ≤ (l0.length : Int)) = true := decide_eq_true c12
                have H' := Aside0.mk H
                clear H
                obtain ⟨i013, hi013, _, hsz13, _⟩ := info_parts info5
                obtain ⟨A13, hcut13, hA13, hC13⟩ := print_mid_of (P := Try.prog) (Value.int .u8) 0 24 5 .i64 .i64 Try.underlying24 hi013 hsz13 A0 c0 l0 a1 (wrap64 (a1 + a2)) (of_decide_eq_true (by first | (with_reducible assumption) | assumption)) (by first | omega | exact of_decide_eq_true (by first | (with_reducible assumption) | assumption)) (of_decide_eq_true (by first | (with_reducible assumption) | assumption)) HC0.out
                (try (have HX13 := Aside0.mk (show ((l0.take ((wrap64 (a1 + a2)) : Int).toNat).drop (a1 : Int).toNat).length = ((wrap64 (a1 + a2)) : Int).toNat - (a1 : Int).toNat from (by have h_ : (wrap64 (a1 + a2) : Int) ≤ (l0.length : Int) := of_decide_eq_true (by first | (with_reducible assumption) | assumption); rw [List.length_drop, List.length_take]; omega))))
                have HR289 := Aside0.mk (Kd.C_of_reads (h1 := fun _ => rfl) (hA13 _ (Kd.reads_of_C HR0.out)))
                have HC289 := Aside0.mk hC13
                clear hA13 hC13 hi013 hsz13
                go_wp2
                go_loopg [8, 40] kj3 (fun kq v8 v40 w' => ∃ (x8_2 : Int) (x40_2 : Int), v8 = .int .i64 x8_2 ∧ v40 = .int .i64 x40_2 ∧ Aside0 (marker_ReadUint.l0 kq x8_2 ((l0.take ((wrap64 (a1 + a2)) : Int).toNat).drop (a1 : Int).toNat) (((l0.take ((wrap64 (a1 + a2)) : Int).toNat).drop (a1 : Int).toNat).length : Int) x40_2 = some (r1, r2)) ∧ Aside0 (kq ≤ kj3) ∧ Drawn0 w w')
                case atStart => exact ⟨(0), (0), (by first | rfl | (simp; done) | (simp [*]; done)), (by first | rfl | (simp; done) | (simp [*]; done)), H', ⟨Nat.le_refl _⟩, by repeat (first | exact Drawn0.refl _ | apply Drawn0.step)⟩
                case round =>
                  clear H'
                  try clear c1
                  try clear p2
                  try clear c3
                  try clear c5
                  try clear c5b0
                  try clear c6
                  try clear c6b0
                  try clear p6
                  try clear c7
                  try clear c7b0
                  try clear c8
                  try clear c9
                  try clear c9b0
                  try clear c10
                  try clear c10b0
                  try clear c10b1
                  try clear c11
                  try clear c11b0
                  try clear c11b1
                  try clear c12
                  try clear c12b0
                  try clear c12b1
                  try clear p2
                  obtain ⟨x8_2, x40_2, rfl, rfl, HA, HK2, ⟨m2, rfl⟩⟩ := hrel
                  cases gk with
                  | zero => exact absurd HA.out (by simp [marker_ReadUint.l0])
                  | succ k2 =>
                    have H := HA.out
                    clear HA
                    simp only [marker_ReadUint.l0] at H
                    by_cases c14 : x40_2 < (((l0.take ((wrap64 (a1 + a2)) : Int).toNat).drop (a1 : Int).toNat).length : Int)
                    · rw [if_pos c14] at H
                      have c14b0 : decide (x40_2 < (((l0.take ((wrap64 (a1 + a2)) : Int).toNat).drop (a1 : Int).toNat).length : Int)) = true := decide_eq_true c14
                      (try (have c14b9 : decide (x40_2 < ((((wrap64 (a1 + a2)) : Int).toNat - (a1 : Int).toNat : Nat) : Int)) = true := (by rw [← HX13.out]; exact c14b0)))
                      clear c14
                      by_cases c15 : 0 ≤ x40_2
                      · rw [if_pos c15] at H
                        have c15b0 : decide (0 ≤ x40_2) = true := decide_eq_true c15
                        clear c15
                        by_cases c16 : x40_2 < (((l0.take ((wrap64 (a1 + a2)) : Int).toNat).drop (a1 : Int).toNat).length : Int)
                        · rw [if_pos c16] at H
                          have c16b0 : decide (x40_2 < (((l0.take ((wrap64 (a1 + a2)) : Int).toNat).drop (a1 : Int).toNat).length : Int)) = true := decide_eq_true c16
                          (try (have c16b9 : decide (x40_2 < ((((wrap64 (a1 + a2)) : Int).toNat - (a1 : Int).toNat : Nat) : Int)) = true := (by rw [← HX13.out]; exact c16b0)))
                          clear c16
                          have H' := Aside0.mk H
                          clear H
                          have p290 : 0 ≤ (x40_2 : Int) := of_decide_eq_true (by first | (with_reducible assumption) | assumption)
                          have q290 : x40_2 < (((l0.take ((wrap64 (a1 + a2)) : Int).toNat).drop (a1 : Int).toNat).length : Int) := of_decide_eq_true (by first | (with_reducible assumption) | assumption)
                          obtain ⟨ad290, e290, hx290_0⟩ := Kd.at_int HR289.out x40_2 p290 q290
                          cases e290
                          replace p290 := eq_true p290
                          replace q290 := eq_true q290
                          (try (have q290x : (x40_2 < ((((wrap64 (a1 + a2)) : Int).toNat - (a1 : Int).toNat : Nat) : Int)) = True := (by rw [← HX13.out]; exact q290)))
                          go_wp2
                          go_roundg k2
                          case measure => have := HJ3.out; have := HK2.out; omega
                          case rel => exact ⟨(Go.bits .or .i64 (wrap64 (x8_2 * 256)) (wrap64 (rd ((l0.take ((wrap64 (a1 + a2)) : Int).toNat).drop (a1 : Int).toNat) x40_2))), (wrap64 (x40_2 + 1)), (by first | rfl | (simp; done) | (simp [*]; done)), (by first | rfl | (simp; done) | (simp [*]; done)), H', ⟨by have := HJ3.out; have := HK2.out; omega⟩, by repeat (first | exact Drawn0.refl _ | apply Drawn0.step)⟩
                        · rw [if_neg c16] at H
                          exact absurd H (by simp)
                      · rw [if_neg c15] at H
                        exact absurd H (by simp)
                    · rw [if_neg c14] at H
                      have c14b0 : decide (x40_2 < (((l0.take ((wrap64 (a1 + a2)) : Int).toNat).drop (a1 : Int).toNat).length : Int)) = false := decide_eq_false c14
                      (try (have c14b9 : decide (x40_2 < ((((wrap64 (a1 + a2)) : Int).toNat - (a1 : Int).toNat : Nat) : Int)) = false := (by rw [← HX13.out]; exact c14b0)))
                      clear c14
                      simp only [Option.some.injEq, Prod.mk.injEq] at H
                      obtain ⟨rfl, rfl⟩ := H
                      go_wp2
                      go_ret2
                      exact ⟨by first | rfl | (simp; done) | (simp [*]; done), by repeat (first | exact Drawn0.refl _ | apply Drawn0.step)⟩
              · rw [if_neg c12] at H
                exact absurd H (by simp)
            · rw [if_neg c11] at H
              exact absurd H (by simp)
          · rw [if_neg c10] at H
            exact absurd H (by simp)

end Go.Proofs.Ytihfopblmjgfaaa.Q

/- The reader's number: what (*reader).uint does, a return or a panic. -/
namespace Go.Proofs.Ytihfopblmjgfaaa.Q
open Go.RowKit Go.Proofs.YtihfopblmjgfaaaW.PrintWords Go.Proofs.YtihfopblmjgfaaaW.PrintLast Go.Proofs.YtihfopblmjgfaaaW.PrintMore
set_option linter.unusedVariables false
set_option linter.unusedSimpArgs false

/-- How one reading ends: the number, or the failure. -/
def UintPost (b : Nat) (p n v e : Int) (w : World) : Ending → World → Prop := fun en w' =>
  (e = 0 ∧ en = .returned (.int .i64 v) ∧ Drawn0 (w.setCell ⟨b, 1, none⟩ (.int .i64 (wrap64 (p + n)))) w') ∨ (e ≠ 0 ∧ en = .panicked [{ v := .iface 99 (.agg #[.int .i64 e]), recovered := false }] ∧ Drawn0 w w')

set_option maxHeartbeats 8000000 in
set_option maxRecDepth 100000 in
theorem reader_uint.calls (k : Nat) (b : Nat) (A : Option Addr) (c : Nat) (l : List Int) (p n v e : Int) (w : World) (hblk : w.heap[b]? = some (.cells #[.slice A l.length c, .int .i64 p] 102 (0, 0)))
    (hr : Kd.C (Kd.int .u8) w A l.length l) (hc : l.length ≤ c) (h : marker_ReadUint.f k l p n = some (v, e)) :
    Calls Try.prog 49 #[.pointer (some ⟨b, 0, none⟩), .int .i64 n] w (UintPost b p n v e w) := by
  have hb : w.cell? ⟨b, 0, none⟩ = some (.slice A l.length c) := (blk_cell hblk 0).trans rfl
  have hp : w.cell? ⟨b, 1, none⟩ = some (.int .i64 p) := (blk_cell hblk 1).trans rfl
  have hz := blk_frozen hblk 1
  clear hblk
  have HR := Aside0.mk hr
  have HC := Aside0.mk hc
  have H := Aside0.mk h
  clear hr hc h
  go_enter Try.func49, Try.ntmps49
  go_wp2_with (first | (go_at_call 52; (with_reducible refine (marker_ReadUint.calls k _ _ l p n v e _ ?side1 ?side2 H.out).mono ?_); (case side1 => repeat (first | exact HR.out | (with_reducible refine Kd.C_alloc ?_ _) | (with_reducible refine Kd.C_drewN ?_ _) | (with_reducible refine Kd.C_drew ?_))); (case side2 => exact HC.out); rintro e w' ⟨rfl, ⟨nd, rfl⟩⟩; (try first | exact ⟨rfl, _, World.drewN_drewN _ _ _⟩ | exact ⟨rfl, _, Eq.trans (World.drewN_drewN _ _ _) (congrArg (World.drewN _) (Nat.add_assoc _ _ _))⟩)))
  repeat (go_quiet (first | (go_at_call 52; (with_reducible refine (marker_ReadUint.calls k _ _ l p n v e _ ?side1 ?side2 H.out).mono ?_); (case side1 => repeat (first | exact HR.out | (with_reducible refine Kd.C_alloc ?_ _) | (with_reducible refine Kd.C_drewN ?_ _) | (with_reducible refine Kd.C_drew ?_))); (case side2 => exact HC.out); rintro e w' ⟨rfl, ⟨nd, rfl⟩⟩; (try first | exact ⟨rfl, _, World.drewN_drewN _ _ _⟩ | exact ⟨rfl, _, Eq.trans (World.drewN_drewN _ _ _) (congrArg (World.drewN _) (Nat.add_assoc _ _ _))⟩))))
  by_cases he : e = 0
  · subst he
    go_wp2
    go_ret
    exact .inl ⟨rfl, rfl, ⟨⟨nq, rfl⟩⟩⟩
  · have he' : decide (e = 0) = false := decide_eq_false he
    go_wp2
    exact ⟨rfl, .inr ⟨he, rfl, ⟨⟨nq, rfl⟩⟩⟩⟩

set_option maxHeartbeats 8000000 in
set_option maxRecDepth 100000 in
/-- The deferred closure of parse in a frame that panics with a failure: it is recovered, the named result is laid. -/
theorem parse_catch (g : Nat) (x e : Int) (older : List PanicEntry) (w : World) (hg : w.heap[g]? = some (.cells #[.int .i64 x] 29 (0, 0))) :
    CallsD Try.prog 63 #[.pointer (some ⟨g, 0, none⟩)] (.panicking ({ v := .iface 99 (.agg #[.int .i64 e]), recovered := false } :: older)) w fun en u' w' =>
      en = .returned (.tuple #[]) ∧ u' = .panicking ({ v := .iface 99 (.agg #[.int .i64 e]), recovered := true } :: older) ∧ w' = (w.setCell ⟨g, 0, none⟩ (.int .i64 e)).alloc (.cells #[.int .i64 e] 99) := by
  refine callsD_of_wpS Try.func63 rfl fun c₀ cs hu => ?_
  apply wpS_seq
  apply wpS_region
  simp [wpOpsS, go_sem, recoverD, hu, Try.ntmps63, Exit.thenS]
  apply wpS_seq
  apply wpS_region
  simp [wpOpsS, go_sem, Exit.thenS]
  refine wpS_cond (t := true) (by simp [Act.eval, Array.replicate]) ?_
  simp only [if_true]
  refine wpS_of_wp ?_
  simp only [Array.replicate_succ, Array.replicate_zero, List.push_toArray, List.append_toArray, List.nil_append, List.cons_append, List.setIfInBounds_toArray, List.set]
  have hlt := blk_lt hg
  have hc : w.cell? ⟨g, 0, none⟩ = some (.int .i64 x) := (blk_cell hg 0).trans rfl
  have hz := blk_frozen hg 0
  have hta : ∀ (e : Int) (w : World), (Instr.typeAssert (.iface 99 (.agg #[.int .i64 e])) 20 99 true).run Try.prog w = .ok (.tuple #[.agg #[.int .i64 e], .bool true]) w := fun _ _ => by kernel_rfl
  have hnot : ∀ (x : Bool) (w : World), (Op.unary .not (.bool x)).run Try.prog w = .ok (.bool (!x)) w := fun _ _ => rfl
  go_wp2
  exact ⟨rfl, _, rfl, _, results_none rfl _ _ _, rfl, rfl, rfl⟩
theorem parse_idle (g : Nat) (w : World) :
    CallsD Try.prog 63 #[.pointer (some ⟨g, 0, none⟩)] .returning w fun en u' w' => en = .returned (.tuple #[]) ∧ u' = .returning ∧ w' = w := by
  refine callsD_of_wpS Try.func63 rfl fun c₀ cs hu => ?_
  apply wpS_seq
  apply wpS_region
  simp [wpOpsS, go_sem, recoverD, hu, Try.ntmps63, Exit.thenS]
  apply wpS_seq
  apply wpS_region
  simp [wpOpsS, go_sem, Exit.thenS]
  refine wpS_cond (t := false) (by simp [Act.eval, Array.replicate]) ?_
  simp only [Bool.false_eq_true, if_false]
  refine wpS_of_wp (wp_skip ?_)
  cases c₀
  simp_all [bodyPostS, results, Try.results63]

/-- Nothing but the blocks of S, and new ones, has changed. -/
structure Only (S : Nat → Prop) (w w' : World) : Prop where
  os : w'.os = w.os
  tape : w'.tape = w.tape
  output : w'.output = w.output
  size : w.heap.size ≤ w'.heap.size
  block : ∀ k, k < w.heap.size → ¬ S k → w'.heap[k]? = w.heap[k]?
theorem drawn_blk {w w' : World} (h : Drawn0 w w') {g : Nat} {o : Obj} (hb : w.heap[g]? = some o) : w'.heap[g]? = some o := blk_below hb h.below
namespace Only
variable {S T : Nat → Prop} {w w1 w2 : World}
theorem refl (S : Nat → Prop) (w : World) : Only S w w := ⟨rfl, rfl, rfl, Nat.le_refl _, fun _ _ _ => rfl⟩
theorem trans (h : Only S w w1) (k : Only S w1 w2) : Only S w w2 :=
  ⟨k.os.trans h.os, k.tape.trans h.tape, k.output.trans h.output, Nat.le_trans h.size k.size, fun j hj hs => (k.block j (Nat.lt_of_lt_of_le hj h.size) hs).trans (h.block j hj hs)⟩
theorem mono (h : Only S w w1) (hs : ∀ k, k < w.heap.size → S k → T k) : Only T w w1 := ⟨h.os, h.tape, h.output, h.size, fun j hj ht => h.block j hj (fun hk => ht (hs j hj hk))⟩
theorem of_below (h : Below w.heap.size w w1) : Only S w w1 := ⟨h.os, h.tape, h.output, h.size, fun j hj _ => h.block j hj⟩
theorem of_drawn (h : Drawn0 w w1) : Only S w w1 := of_below h.below
theorem alloc (h : Only S w w1) (o : Obj) : Only S w (w1.alloc o) := h.trans (of_below (below_alloc (Below.refl _ _) o))
theorem drewN (h : Only S w w1) (n : Nat) : Only S w (w1.drewN n) := h.trans (of_below (pw_below_drewN (Below.refl _ _) n))
theorem setCell (h : Only S w w1) {g : Nat} (hg : S g) (i : Nat) (u : Value) : Only S w (w1.setCell ⟨g, i, none⟩ u) := by
  exact h.trans ⟨rfl, rfl, rfl, by simp [World.setCell], fun j hj hs => Below.heap_setCell w1 ⟨g, i, none⟩ u j (fun e => hs (e ▸ hg))⟩
theorem blk {g : Nat} {o : Obj} (h : Only S w w1) (hb : w.heap[g]? = some o) (hs : ¬ S g) : w1.heap[g]? = some o := (h.block g (blk_lt hb) hs).trans hb
theorem below {B : Nat} (h : Only S w w1) (hB : B ≤ w.heap.size) (hs : ∀ k, S k → B ≤ k) : Below B w w1 := ⟨h.os, h.tape, h.output, h.size, fun k hk => h.block k (Nat.lt_of_lt_of_le hk hB) (fun hq => absurd (hs k hq) (by omega))⟩
theorem drop (h : Only S w w1) (hs : ∀ k, S k → T k ∨ w.heap.size ≤ k) : Only T w w1 := ⟨h.os, h.tape, h.output, h.size, fun j hj ht => h.block j hj (fun hk => (hs j hk).elim ht (fun hq => absurd hq (by omega)))⟩
end Only

/-- Some cells of a block are stored, one behind the other. -/
def setL (W : World) (g : Nat) : Nat → List Value → World
  | _, [] => W
  | i, v :: vs => setL (W.setCell ⟨g, i, none⟩ v) g (i + 1) vs
def setA (c : Array Value) : Nat → List Value → Array Value
  | _, [] => c
  | i, v :: vs => setA (c.setIfInBounds i v) (i + 1) vs
theorem setL_blk {g t : Nat} : ∀ (vs : List Value) (W : World) (i : Nat) (c : Array Value), W.heap[g]? = some (.cells c t (0, 0)) → (setL W g i vs).heap[g]? = some (.cells (setA c i vs) t (0, 0))
  | [], _, _, _, h => h
  | v :: vs, W, i, c, h => setL_blk vs _ (i + 1) _ (blk_set h i v)
theorem setA_list : ∀ (vs : List Value) (i : Nat) (c : Array Value), c.size = i + vs.length → (setA c i vs).toList = c.toList.take i ++ vs
  | [], i, c, h => by
    rw [setA, List.append_nil, List.take_of_length_le (by simp at h ⊢; omega)]
  | v :: vs, i, c, h => by
    have h' : i < c.size := by simp at h; omega
    rw [setA, setA_list vs (i + 1) _ (by simp at h ⊢; omega)]
    rw [Array.toList_setIfInBounds, List.take_succ_eq_append_getElem (by simp; omega), List.take_set_of_le (Nat.le_refl _)]
    simp
theorem setL_full {W : World} {g t : Nat} {c : Array Value} (h : W.heap[g]? = some (.cells c t (0, 0))) (vs : List Value) (hl : c.size = vs.length) : (setL W g 0 vs).heap[g]? = some (.cells vs.toArray t (0, 0)) := by
  rw [setL_blk vs W 0 c h]
  have := setA_list vs 0 c (by omega)
  simp only [List.take_zero, List.nil_append] at this
  rw [show setA c 0 vs = vs.toArray from Array.toList_inj.1 (by rw [this])]
theorem setL_below {w : World} {g B : Nat} (hg : B ≤ g) : ∀ (vs : List Value) (W : World) (i : Nat), Below B w W → Below B w (setL W g i vs)
  | [], _, _, h => h
  | v :: vs, W, i, h => setL_below hg vs _ (i + 1) (h.setCell (p := ⟨g, i, none⟩) hg v)
theorem setL_far {g g' : Nat} {o : Obj} (hg : g' ≠ g) : ∀ (vs : List Value) (W : World) (i : Nat), W.heap[g']? = some o → (setL W g i vs).heap[g']? = some o
  | [], _, _, h => h
  | v :: vs, W, i, h => setL_far hg vs _ (i + 1) ((Below.heap_setCell W ⟨g, i, none⟩ v g' hg).trans h)
theorem setL_R {α : Type} {d : Kd α} {e base : Nat} {ok : Nat → Prop} {v : Value} {xs : List α} {g : Nat} (hok : ∀ k, ok k → k ≠ g) : ∀ (vs : List Value) (W : World) (i : Nat), d.R e W base ok v xs → d.R e (setL W g i vs) base ok v xs
  | [], _, _, h => h
  | u :: vs, W, i, h => setL_R hok vs _ (i + 1) (Kd.R_far (p := ⟨g, i, none⟩) h hok u)

/-- A reader's state: its cells; what came in before; what the call has turned. -/
structure RS (S : Nat → Prop) (wb w1 : World) (ra : Nat) (A : Option Addr) (n c : Nat) (p : Int) (W : World) : Prop where
  br : W.heap[ra]? = some (.cells #[.slice A n c, .int .i64 p] 102 (0, 0))
  below : Below wb.heap.size wb W
  only : Only S w1 W
namespace RS
variable {S : Nat → Prop} {wb w1 W W' : World} {ra n c : Nat} {A : Option Addr} {p p' : Int}
theorem read (h : RS S wb w1 ra A n c p W) (hb : wb.heap.size ≤ ra) (hs : S ra) (q : Int) (hd : Drawn0 (W.setCell ⟨ra, 1, none⟩ (.int .i64 q)) W') (hq : q = p') : RS S wb w1 ra A n c p' W' := by
  subst hq
  have h1 : Below wb.heap.size wb (W.setCell ⟨ra, 1, none⟩ (.int .i64 q)) := h.below.setCell (p := ⟨ra, 1, none⟩) hb _
  exact ⟨drawn_blk hd (blk_put h.br 1 _ rfl), below_then h1 h1.size hd.below, (h.only.setCell hs 1 _).trans (Only.of_drawn hd)⟩
theorem drawn (h : RS S wb w1 ra A n c p W) (hd : Drawn0 W W') : RS S wb w1 ra A n c p W' := ⟨drawn_blk hd h.br, below_then h.below h.below.size hd.below, h.only.trans (Only.of_drawn hd)⟩
theorem store (h : RS S wb w1 ra A n c p W) {g : Nat} (hb : wb.heap.size ≤ g) (hs : S g) (hr : g ≠ ra) (i : Nat) (u : Value) : RS S wb w1 ra A n c p (W.setCell ⟨g, i, none⟩ u) :=
  ⟨blk_far h.br (p := ⟨g, i, none⟩) (Ne.symm hr) u, h.below.setCell (p := ⟨g, i, none⟩) hb _, h.only.setCell hs i u⟩
theorem far {g : Nat} {t : TypeId} {cs : Array Value} (hb : W.heap[g]? = some (.cells cs t (0, 0))) (hr : g ≠ ra) {q : Int} (hd : Drawn0 (W.setCell ⟨ra, 1, none⟩ (.int .i64 q)) W') : W'.heap[g]? = some (.cells cs t (0, 0)) :=
  drawn_blk hd (blk_far hb (p := ⟨ra, 1, none⟩) hr _)
theorem alloc (h : RS S wb w1 ra A n c p W) (o : Obj) : RS S wb w1 ra A n c p (W.alloc o) := ⟨blk_alloc h.br o, below_then h.below h.below.size (below_alloc (Below.refl _ _) o), h.only.alloc o⟩
theorem storeN (h : RS S wb w1 ra A n c p W) {g : Nat} (hn : w1.heap.size ≤ g) (hb : wb.heap.size ≤ g) (hr : g ≠ ra) (i : Nat) (u : Value) : RS S wb w1 ra A n c p (W.setCell ⟨g, i, none⟩ u) :=
  ⟨blk_far h.br (p := ⟨g, i, none⟩) (Ne.symm hr) u, h.below.setCell (p := ⟨g, i, none⟩) hb _, Only.drop (S := fun k => S k ∨ w1.heap.size ≤ k) ((h.only.mono (fun _ _ hk => .inl hk)).setCell (.inr hn) i u) (fun k hk => hk)⟩
theorem readR {α : Type} {d : Kd α} {e base : Nat} {ok : Nat → Prop} {v : Value} {xs : List α} (h : d.R e W base ok v xs) (hok : ∀ k, ok k → k ≠ ra) {q : Int} (hd : Drawn0 (W.setCell ⟨ra, 1, none⟩ (.int .i64 q)) W') : d.R e W' base ok v xs :=
  Kd.R_below (Kd.R_far h (p := ⟨ra, 1, none⟩) hok _) hd.below
theorem grown (h : RS S wb w1 ra A n c p W) {row : Option Nat} (hb : Below wb.heap.size wb W') (hg : W.grownBy W' row) (hrow : ∀ k, row = some k → w1.heap.size ≤ k) (hra : ra < w1.heap.size) : RS S wb w1 ra A n c p W' :=
  ⟨blk_grown h.br hg (fun he => by have := hrow ra he.symm; omega), hb, Only.drop (S := fun k => S k ∨ w1.heap.size ≤ k) ((h.only.mono (fun _ _ hk => .inl hk)).trans ⟨hg.os, hg.tape, hg.output, hg.size, fun k hk hs => hg.block k hk (fun he => hs (.inr (hrow k he.symm)))⟩) (fun k hk => hk)⟩
end RS

set_option maxHeartbeats 8000000 in
set_option maxRecDepth 100000 in
theorem parse.calls (F : Nat) (hcf : ∀ (args : Array Value) (w : World), (callFunc F args).run Try.prog w = .ok (.enter F args) w) (cap : Array Value) (ar : Nat → Array Value) (har : ∀ ra, #[.pointer (some ⟨ra, 0, none⟩)] ++ cap = ar ra) (S : Nat → Prop) (code cd : Int) (A : Option Addr) (c : Nat) (l : List Int) (w0 : World) (hr : Kd.C (Kd.int .u8) w0 A l.length l) (hc : l.length ≤ c)
    (OkP ErrP : Int → World → Prop) (hS : ∀ k, S k → k < w0.heap.size)
    (hOk : ∀ p w1 w2, OkP p w1 → Only (fun k => k = w0.heap.size + 1) w1 w2 → OkP p w2) (hErr : ∀ p w1 w2, ErrP p w1 → Only (fun k => k = w0.heap.size + 1) w1 w2 → ErrP p w2)
    (hF : ∀ (w1 : World), Below w0.heap.size w0 w1 → w1.heap.size = w0.heap.size + 3 → w1.heap[w0.heap.size + 2]? = some (.cells #[.slice A l.length c, .int .i64 0] 102 (0, 0)) → Calls Try.prog F (ar (w0.heap.size + 2)) w1 fun en w2 => Only (fun k => S k ∨ k = w0.heap.size + 2) w1 w2 ∧ ((∃ p, en = .returned (.tuple #[]) ∧ w2.heap[w0.heap.size + 2]? = some (.cells #[.slice A l.length c, .int .i64 p] 102 (0, 0)) ∧ OkP p w2) ∨ ∃ e, en = .panicked [{ v := .iface 99 (.agg #[.int .i64 e]), recovered := false }] ∧ ErrP e w2)) :
    Calls Try.prog 47 #[.agg #[.int .i64 code, .slice A l.length c], .int .i64 cd, .func (.func F) #[] cap] w0 fun en w' => ∃ e, en = .returned (.int .i64 e) ∧ Only S w0 w' ∧ ((code ≠ cd ∧ e = 11 ∧ Only (fun _ => False) w0 w') ∨ (code = cd ∧ ((∃ p, OkP p w' ∧ e = if p < (l.length : Int) then 9 else 0) ∨ ErrP e w'))) := by
  have hmf : ∀ (fn : Fn) (first cap : Array Value) (w : World), (Instr.makeFunc fn first cap).run Try.prog w = .ok (.func fn first cap) w := fun _ _ _ _ => rfl
  go_enter_defers Try.func47, Try.ntmps47
  by_cases hcd : code = cd
  · subst hcd
    go_wp2
    refine (hF _ ?b1 ?b2 ?b3).mono ?_
    case b1 => exact ((Below.refl _ _).alloc (Nat.le_refl _) _).alloc (by simp) _ |>.alloc (by simp; omega) _
    case b2 => simp
    case b3 => rw [show w0.heap.size + 1 + 1 = ((w0.alloc (Obj.cells #[Value.int IntKind.i64 code, Value.slice A l.length c] 26)).alloc (Obj.cells #[Value.int IntKind.i64 0] 29)).heap.size by simp]; exact blk_new _ _
    have hO1 : Only S w0 (((w0.alloc (Obj.cells #[Value.int IntKind.i64 code, Value.slice A l.length c] 26)).alloc (Obj.cells #[Value.int IntKind.i64 0] 29)).alloc (Obj.cells #[Value.slice A l.length c, Value.int IntKind.i64 0] 102)) := (((Only.refl S w0).alloc _).alloc _).alloc _
    have hb1 : (((w0.alloc (Obj.cells #[Value.int IntKind.i64 code, Value.slice A l.length c] 26)).alloc (Obj.cells #[Value.int IntKind.i64 0] 29)).alloc (Obj.cells #[Value.slice A l.length c, Value.int IntKind.i64 0] 102)).heap[w0.heap.size + 1]? = some (.cells #[.int .i64 0] 29 (0, 0)) := blk_alloc (by rw [show w0.heap.size + 1 = (w0.alloc (Obj.cells #[Value.int IntKind.i64 code, Value.slice A l.length c] 26)).heap.size by simp]; exact blk_new _ _) _
    generalize hW : (((w0.alloc (Obj.cells #[Value.int IntKind.i64 code, Value.slice A l.length c] 26)).alloc (Obj.cells #[Value.int IntKind.i64 0] 29)).alloc (Obj.cells #[Value.slice A l.length c, Value.int IntKind.i64 0] 102)) = W at hO1 hb1
    clear hW
    rintro en w2 ⟨hon, ⟨p, rfl, hbr, hok⟩ | ⟨e, rfl, herr⟩⟩
    · have hbe : w2.heap[w0.heap.size + 1]? = some (.cells #[.int .i64 0] 29 (0, 0)) := hon.blk hb1 (fun h => h.elim (fun h => absurd (hS _ h) (by omega)) (fun h => absurd h (by omega)))
      have hO2 : Only (fun k => S k ∨ k = w0.heap.size + 1 + 1) w0 w2 := (hO1.mono (fun _ _ h => Or.inl h)).trans hon
      clear hF hb1 hon hO1
      have hlt := blk_lt hbe
      have hlr := blk_lt hbr
      have hce : w2.cell? ⟨w0.heap.size + 1, 0, none⟩ = some (.int .i64 0) := (blk_cell hbe 0).trans rfl
      have hze := blk_frozen hbe 0
      have hcr0 : w2.cell? ⟨w0.heap.size + 1 + 1, 0, none⟩ = some (.slice A l.length c) := (blk_cell hbr 0).trans rfl
      have hcr1 : w2.cell? ⟨w0.heap.size + 1 + 1, 1, none⟩ = some (.int .i64 p) := (blk_cell hbr 1).trans rfl
      simp only []
      go_wp2
      repeat (go_quiet (fail))
      by_cases hp : p < (l.length : Int)
      · have hp' : decide (p < (l.length : Int)) = true := decide_eq_true hp
        go_wp2
        refine leaves_cons (f := 63) (args := #[.pointer (some ⟨w0.heap.size + 1, 0, none⟩)]) (by simp) (by simp [go_sem]) ?_
        refine (parse_idle (w0.heap.size + 1) _).mono ?_
        rintro e u' w'' ⟨rfl, rfl, rfl⟩
        have hv : ((w2.drewN nq).setCell ⟨w0.heap.size + 1, 0, none⟩ (.int .i64 9)).cell? ⟨w0.heap.size + 1, 0, none⟩ = some (.int .i64 9) := (blk_cell (blk_put (blk_drewN hbe nq) 0 (.int .i64 9) rfl) 0).trans rfl
        simp only [Leaves, settle, results, Try.results47]
        refine ⟨.int .i64 9, by simp [go_sem, hv], 9, rfl, ?_, .inl ⟨p, ?_, by rw [if_pos hp]⟩⟩
        · exact ((hO2.drewN nq).mono (T := fun k => S k ∨ w0.heap.size ≤ k) (fun k _ h => h.imp id (fun h => by omega))).setCell (.inr (by omega)) 0 _ |>.drop (fun k h => h)
        · exact hOk _ _ _ hok (((Only.refl (fun k => k = w0.heap.size + 1) w2).drewN nq).setCell rfl 0 _)
      · have hp' : decide (p < (l.length : Int)) = false := decide_eq_false hp
        go_wp2
        refine leaves_cons (f := 63) (args := #[.pointer (some ⟨w0.heap.size + 1, 0, none⟩)]) (by simp) (by simp [go_sem]) ?_
        refine (parse_idle (w0.heap.size + 1) _).mono ?_
        rintro e u' w'' ⟨rfl, rfl, rfl⟩
        have hv : ((w2.drewN nq).setCell ⟨w0.heap.size + 1, 0, none⟩ (.int .i64 0)).cell? ⟨w0.heap.size + 1, 0, none⟩ = some (.int .i64 0) := (blk_cell (blk_put (blk_drewN hbe nq) 0 (.int .i64 0) rfl) 0).trans rfl
        simp only [Leaves, settle, results, Try.results47]
        refine ⟨.int .i64 0, by simp [go_sem, hv], 0, rfl, ?_, .inl ⟨p, ?_, by rw [if_neg (by omega)]⟩⟩
        · exact ((hO2.drewN nq).mono (T := fun k => S k ∨ w0.heap.size ≤ k) (fun k _ h => h.imp id (fun h => by omega))).setCell (.inr (by omega)) 0 _ |>.drop (fun k h => h)
        · exact hOk _ _ _ hok (((Only.refl (fun k => k = w0.heap.size + 1) w2).drewN nq).setCell rfl 0 _)
    · have hbe : w2.heap[w0.heap.size + 1]? = some (.cells #[.int .i64 0] 29 (0, 0)) := hon.blk hb1 (fun h => h.elim (fun h => absurd (hS _ h) (by omega)) (fun h => absurd h (by omega)))
      have hO2 : Only (fun k => S k ∨ k = w0.heap.size + 1 + 1) w0 w2 := (hO1.mono (fun _ _ h => Or.inl h)).trans hon
      clear hF hb1 hon hO1
      refine leaves_cons (f := 63) (args := #[.pointer (some ⟨w0.heap.size + 1, 0, none⟩)]) (by simp) (by simp [go_sem]) ?_
      refine (parse_catch (w0.heap.size + 1) 0 e [] w2 hbe).mono ?_
      rintro en u' w'' ⟨rfl, rfl, rfl⟩
      have hv : ((w2.setCell ⟨w0.heap.size + 1, 0, none⟩ (.int .i64 e)).alloc (.cells #[.int .i64 e] 99)).cell? ⟨w0.heap.size + 1, 0, none⟩ = some (.int .i64 e) := (blk_cell (blk_alloc (blk_put hbe 0 (.int .i64 e) rfl) _) 0).trans rfl
      simp only [Leaves, settle, results, Try.results47, List.dropWhile]
      refine ⟨.int .i64 e, by simp [go_sem, hv], e, rfl, ?_, .inr ⟨trivial, .inr ?_⟩⟩
      · exact ((hO2.mono (T := fun k => S k ∨ w0.heap.size ≤ k) (fun k _ h => h.imp id (fun h => by omega))).setCell (.inr (by omega)) 0 _ |>.alloc _).drop (fun k h => h)
      · exact hErr _ _ _ herr (((Only.refl (fun k => k = w0.heap.size + 1) w2).setCell rfl 0 _).alloc _)
  · have hcd' : decide (code = cd) = false := decide_eq_false hcd
    go_wp2
    refine leaves_cons (f := 63) (args := #[.pointer (some ⟨w0.heap.size + 1, 0, none⟩)]) (by simp) (by simp [go_sem]) ?_
    refine (parse_idle (w0.heap.size + 1) _).mono ?_
    rintro e u' w'' ⟨rfl, rfl, rfl⟩
    simp [Leaves, settle, results, Try.results47, go_sem]
    exact ⟨((Only.refl S w0).alloc _).alloc _, .inl ⟨hcd, ((Only.refl _ w0).alloc _).alloc _⟩⟩
end Go.Proofs.Ytihfopblmjgfaaa.Q

/- A struct that fills a block, loaded and stored as a whole. -/
namespace Go.Proofs.Ytihfopblmjgfaaa.Q
open Go.RowKit Go.Proofs.YtihfopblmjgfaaaW.PrintWords Go.Proofs.YtihfopblmjgfaaaW.PrintLast Go.Proofs.YtihfopblmjgfaaaW.PrintMore
set_option linter.unusedVariables false
set_option linter.unusedSimpArgs false
section
variable {P : Program} {ops : Array Oper} {rest : List Oper} {o : Oper} {a : Act} {Q : Exit → Act → World → Prop} {W : World} {g t : Nat} {cs old : Array Value} {ty : TypeId} {fs : Array Field} {K : Act → World → Prop}
theorem range_blk (hb : W.heap[g]? = some (.cells cs t (0, 0))) : W.rangeAt g 0 cs.toList := fun j v hv => by
  rw [Nat.zero_add, blk_cell hb j]
  simpa using hv
theorem there_blk (hb : W.heap[g]? = some (.cells old t (0, 0))) {n : Nat} (hn : old.size = n) : W.there g 0 n := fun j hj => by
  rw [Nat.zero_add, blk_cell hb j]
  refine ⟨?_, blk_frozen hb j⟩
  rw [Array.getElem?_eq_getElem (by omega)]
  rfl
theorem setCells_setL (g : Nat) : ∀ (vs : List Value) (W : World) (i : Nat), W.setCells g i vs = setL W g i vs
  | [], _, _ => rfl
  | v :: vs, W, i => by
    show World.setCells _ g (i + 1) vs = _
    rw [setCells_setL g vs]
    rfl
theorem run_load_blk (hb : W.heap[g]? = some (.cells cs t (0, 0))) (hu : P.underlying ty = some (.struct fs)) (hi : (P.info? ty).map (·.size) = some cs.size) : (Instr.loadAt ty (.pointer (some ⟨g, 0, none⟩))).run P W = .ok (.agg cs) W := by
  have := run_loadAt_mid (P := P) W g 0 ty cs.toList (.struct fs) (range_blk hb) hu rfl (by simpa using hi)
  simpa using this
theorem run_store_blk (hb : W.heap[g]? = some (.cells old t (0, 0))) (hs : old.size = cs.size) (hi : (P.info? ty).map (·.size) = some cs.size) (h1 : cs.all (·.oneCell') = true) : (Instr.storeAt ty (.pointer (some ⟨g, 0, none⟩)) (.agg cs)).run P W = .ok () (setL W g 0 cs.toList) := by
  rw [← setCells_setL]
  exact run_storeAt_mid W g 0 ty cs (there_blk hb hs) hi h1
/-- What a store of a whole struct leaves. -/
structure Stored (W : World) (g t : Nat) (cs : Array Value) (W' : World) : Prop where
  blk : W'.heap[g]? = some (.cells cs t (0, 0))
  far : ∀ (g' : Nat) (o : Obj), g' ≠ g → W.heap[g']? = some o → W'.heap[g']? = some o
  below : ∀ (B : Nat) (w : World), B ≤ g → Below B w W → Below B w W'
  row : ∀ {α : Type} {d : Kd α} {e base : Nat} {ok : Nat → Prop} {v : Value} {xs : List α}, (∀ k, ok k → k ≠ g) → d.R e W base ok v xs → d.R e W' base ok v xs
theorem stored (hb : W.heap[g]? = some (.cells old t (0, 0))) (hs : old.size = cs.size) : Stored W g t cs (setL W g 0 cs.toList) :=
  ⟨by have := setL_full hb cs.toList (by simpa using hs); simpa using this, fun g' o hg h => setL_far hg cs.toList W 0 h, fun B w hB h => setL_below hB cs.toList W 0 h, fun hok h => setL_R hok cs.toList W 0 h⟩
theorem load_ev (hgd : o.guard = none) (ty : TypeId) (x : Operand) (ho : o.op = .load ty x) (hx : a.eval x = .pointer (some ⟨g, 0, none⟩)) (hb : W.heap[g]? = some (.cells cs t (0, 0))) (hu : P.underlying ty = some (.struct fs)) (hi : (P.info? ty).map (·.size) = some cs.size)
    (h : wpList P ops Q rest (a.put o.dst (.agg cs)) W) : wpList P ops Q (o :: rest) a W :=
  wpList_plain hgd fun K hK => by
    unfold Oper.wp execOp
    simp only [ho, hx, Sem.run_bind, run_load_blk hb hu hi, Result.andThen_ok, Sem.run_pure]
    exact hK _ _ h
theorem store_ev (hgd : o.guard = none) (hN : o.dst = none) (ty : TypeId) (x y : Operand) (ho : o.op = .store ty x y) (hx : a.eval x = .pointer (some ⟨g, 0, none⟩)) (hy : a.eval y = .agg cs) (hb : W.heap[g]? = some (.cells old t (0, 0))) (hs : old.size = cs.size) (hi : (P.info? ty).map (·.size) = some cs.size) (h1 : cs.all (·.oneCell') = true)
    (h : ∀ W', Stored W g t cs W' → wpList P ops Q rest a W') : wpList P ops Q (o :: rest) a W :=
  wpList_plain hgd fun K hK => by
    unfold Oper.wp execOp
    simp only [ho, hx, hy, Sem.run_bind, run_store_blk hb hs hi h1, Result.andThen_ok, Sem.run_pure]
    show K (a.put o.dst undef) _
    rw [hN]
    exact hK _ _ (h _ (stored hb hs))
theorem load_yields {S : World → Prop} (hw : Region.wanted o (yielded ops a.tmps) = true) (ty : TypeId) (x : Operand) (ho : o.op = .load ty x) (hx : a.eval x = .pointer (some ⟨g, 0, none⟩)) (hS : ∀ w, S w → w.heap[g]? = some (.cells cs t (0, 0))) (hu : P.underlying ty = some (.struct fs)) (hi : (P.info? ty).map (·.size) = some cs.size) : YieldsIf P ops S o (.agg cs) a :=
  .inl ⟨hw, fun w hw' => by
    unfold execOp
    simp only [ho, hx, Sem.run_bind, run_load_blk (hS w hw') hu hi, Result.andThen_ok, Sem.run_pure]⟩
theorem store_step (hw : Region.wanted o (yielded ops a.tmps) = true) (hN : o.dst = none) (ty : TypeId) (x y : Operand) (ho : o.op = .store ty x y) (hx : a.eval x = .pointer (some ⟨g, 0, none⟩)) (hy : a.eval y = .agg cs) (hb : W.heap[g]? = some (.cells old t (0, 0))) (hs : old.size = cs.size) (hi : (P.info? ty).map (·.size) = some cs.size) (h1 : cs.all (·.oneCell') = true)
    (h : ∀ W', Stored W g t cs W' → K a W') : if Region.wanted o (yielded ops a.tmps) = true then Oper.wp P o a W K Q else K (a.put none undef) W := by
  refine skip_ (w1 := setL W g 0 cs.toList) hw hN ?_ (h _ (stored hb hs))
  unfold execOp
  simp only [ho, hx, hy, Sem.run_bind, run_store_blk hb hs hi h1, Result.andThen_ok, Sem.run_pure]
end
/-- Blocks that are held: each full, no two alike. -/
structure Bks (n : Nat) (w0 W : World) (l : List (Nat × Nat × Array Value)) : Prop where
  blk : ∀ (i : Nat) (b : Nat × Nat × Array Value), l[i]? = some b → W.heap[b.1]? = some (.cells b.2.2 b.2.1 (0, 0))
  ne : ∀ (i j : Nat) (b c : Nat × Nat × Array Value), i ≠ j → l[i]? = some b → l[j]? = some c → b.1 ≠ c.1
  ge : ∀ (i : Nat) (b : Nat × Nat × Array Value), l[i]? = some b → n ≤ b.1
  below : Below n w0 W
namespace Bks
variable {n : Nat} {w0 W W' : World} {l : List (Nat × Nat × Array Value)} {i g t : Nat} {cs : Array Value}
theorem nil (w : World) : Bks w.heap.size w w [] := ⟨fun i b h => by simp at h, fun i j b c _ h => by simp at h, fun i b h => by simp at h, Below.refl _ _⟩
theorem get (h : Bks n w0 W l) (i : Nat) (hi : l[i]? = some (g, t, cs)) : W.heap[g]? = some (.cells cs t (0, 0)) := h.blk i _ hi
theorem cell (h : Bks n w0 W l) (i : Nat) (hi : l[i]? = some (g, t, cs)) (j : Nat) {v : Value} (hv : cs[j]? = some v) : W.cell? ⟨g, j, none⟩ = some v := (blk_cell (h.get i hi) j).trans hv
theorem call (h : Bks n w0 W l) (hn : n ≤ W.heap.size) (hb : Below W.heap.size W W') : Bks n w0 W' l :=
  ⟨fun i b hi => blk_below (h.blk i b hi) hb, h.ne, h.ge, h.below.trans (hb.mono hn)⟩
theorem into (h : Bks n w0 W l) (hi : l[i]? = some (g, t, cs)) (cs' : Array Value) (h1 : W'.heap[g]? = some (.cells cs' t (0, 0))) (h2 : ∀ (g' : Nat) (o : Obj), g' ≠ g → W.heap[g']? = some o → W'.heap[g']? = some o) (h3 : Below n w0 W') : Bks n w0 W' (l.set i (g, t, cs')) := by
  have key : ∀ (j : Nat) (b : Nat × Nat × Array Value), (l.set i (g, t, cs'))[j]? = some b → (j = i ∧ b = (g, t, cs')) ∨ (j ≠ i ∧ l[j]? = some b) := by
    intro j b hj
    by_cases hji : j = i
    · subst hji
      rw [List.getElem?_set] at hj
      rw [if_pos rfl] at hj
      split at hj
      · exact .inl ⟨rfl, (Option.some.inj hj).symm⟩
      · exact absurd hj (by simp)
    · rw [List.getElem?_set, if_neg (Ne.symm hji)] at hj
      exact .inr ⟨hji, hj⟩
  have nm : ∀ (j : Nat) (b : Nat × Nat × Array Value), (l.set i (g, t, cs'))[j]? = some b → ∃ c, l[j]? = some c ∧ c.1 = b.1 := by
    intro j b hj
    rcases key j b hj with ⟨rfl, rfl⟩ | ⟨_, h'⟩
    · exact ⟨_, hi, rfl⟩
    · exact ⟨_, h', rfl⟩
  refine ⟨fun j b hj => ?_, fun j k b c hjk hj hk => ?_, fun j b hj => ?_, h3⟩
  · rcases key j b hj with ⟨rfl, rfl⟩ | ⟨hne, h'⟩
    · exact h1
    · exact h2 _ _ (h.ne j i _ _ hne h' hi) (h.blk j b h')
  · obtain ⟨b', hb', e1⟩ := nm j b hj
    obtain ⟨c', hc', e2⟩ := nm k c hk
    rw [← e1, ← e2]
    exact h.ne j k _ _ hjk hb' hc'
  · obtain ⟨b', hb', e1⟩ := nm j b hj
    rw [← e1]
    exact h.ge j _ hb'
theorem set (h : Bks n w0 W l) (i : Nat) (hi : l[i]? = some (g, t, cs)) (j : Nat) (v : Value) {cs' : Array Value} (hcs : cs.setIfInBounds j v = cs') : Bks n w0 (W.setCell ⟨g, j, none⟩ v) (l.set i (g, t, cs')) :=
  h.into hi cs' (blk_put (h.get i hi) j v hcs) (fun g' o hg ho => (Below.heap_setCell W ⟨g, j, none⟩ v g' hg).trans ho) (h.below.setCell (p := ⟨g, j, none⟩) (h.ge i _ hi) v)
theorem stored (h : Bks n w0 W l) (i : Nat) (hi : l[i]? = some (g, t, cs)) {cs' : Array Value} (hs : Stored W g t cs' W') : Bks n w0 W' (l.set i (g, t, cs')) :=
  h.into hi cs' hs.blk hs.far (hs.below _ _ (h.ge i _ hi) h.below)
theorem box (h : Bks n w0 W l) (hn : n ≤ W.heap.size) (hg : g = W.heap.size) (hbox : W'.heap[g]? = some (.cells cs t (0, 0))) (hb : Below W.heap.size W W') : Bks n w0 W' ((g, t, cs) :: l) := by
  have lt : ∀ (j : Nat) (b : Nat × Nat × Array Value), l[j]? = some b → b.1 < g := fun j b hj => hg ▸ blk_lt (h.blk j b hj)
  have h' := h.call hn hb
  refine ⟨fun j b hj => ?_, fun j k b c hjk hj hk => ?_, fun j b hj => ?_, h'.below⟩
  · cases j with
    | zero => obtain rfl : (g, t, cs) = b := by simpa using hj
              exact hbox
    | succ j => exact h'.blk j b (by simpa using hj)
  · cases j with
    | zero => obtain rfl : (g, t, cs) = b := by simpa using hj
              cases k with
              | zero => exact absurd rfl hjk
              | succ k => exact Nat.ne_of_gt (lt k c (by simpa using hk))
    | succ j => cases k with
              | zero => obtain rfl : (g, t, cs) = c := by simpa using hk
                        exact Nat.ne_of_lt (lt j b (by simpa using hj))
              | succ k => exact h.ne j k b c (fun e => hjk (by rw [e])) (by simpa using hj) (by simpa using hk)
  · cases j with
    | zero => obtain rfl : (g, t, cs) = b := by simpa using hj
              exact hg ▸ hn
    | succ j => exact h.ge j b (by simpa using hj)
theorem alloc (h : Bks n w0 W l) (hn : n ≤ W.heap.size) (cs : Array Value) (t : Nat) : Bks n w0 (W.alloc (.cells cs t)) ((W.heap.size, t, cs) :: l) :=
  h.box hn rfl (blk_new W _) (below_alloc (Below.refl _ _) _)
theorem drew (h : Bks n w0 W l) : Bks n w0 W.drew l := ⟨h.blk, h.ne, h.ge, below_drew1 h.below⟩
theorem swap {x y : Nat × Nat × Array Value} (h : Bks n w0 W (x :: y :: l)) : Bks n w0 W (y :: x :: l) := by
  have key : ∀ i b, (y :: x :: l)[i]? = some b → ∃ j, (x :: y :: l)[j]? = some b ∧ j = (if i = 0 then 1 else if i = 1 then 0 else i) := by
    intro i b hi
    match i, hi with
    | 0, hi => exact ⟨1, by simpa using hi, rfl⟩
    | 1, hi => exact ⟨0, by simpa using hi, rfl⟩
    | i + 2, hi => exact ⟨i + 2, by simpa using hi, by simp⟩
  refine ⟨fun i b hi => ?_, fun i j b c hij hi hj => ?_, fun i b hi => ?_, h.below⟩
  · obtain ⟨k, hk, _⟩ := key i b hi
    exact h.blk k b hk
  · obtain ⟨k, hk, e1⟩ := key i b hi
    obtain ⟨m, hm, e2⟩ := key j c hj
    refine h.ne k m b c (fun e => hij ?_) hk hm
    rcases i with _ | _ | i <;> rcases j with _ | _ | j <;> simp at e1 e2 <;> omega
  · obtain ⟨k, hk, _⟩ := key i b hi
    exact h.ge k b hk
end Bks
theorem row_set {α : Type} {d : Kd α} {e base g t : Nat} {W : World} {cs : Array Value} {v : Value} {xs : List α} (hR : d.R e W base (fun _ => True) v xs) (hb : W.heap[g]? = some (.cells cs t (0, 0))) (ht : ∀ q, q ∈ e :: d.E → q ≠ t) (j : Nat) (u : Value) : d.R e (W.setCell ⟨g, j, none⟩ u) base (fun _ => True) v xs :=
  Kd.R_mono (Kd.R_far (p := ⟨g, j, none⟩) (Kd.R_types hR hb ht) (fun _ hk => hk.2) u) (fun _ _ => trivial)
theorem row_stored {α : Type} {d : Kd α} {e base g t : Nat} {W W' : World} {cs cs' : Array Value} {v : Value} {xs : List α} (hR : d.R e W base (fun _ => True) v xs) (hb : W.heap[g]? = some (.cells cs t (0, 0))) (ht : ∀ q, q ∈ e :: d.E → q ≠ t) (hs : Stored W g t cs' W') : d.R e W' base (fun _ => True) v xs :=
  Kd.R_mono (hs.row (fun _ hk => hk.2) (Kd.R_types hR hb ht)) (fun _ _ => trivial)
end Go.Proofs.Ytihfopblmjgfaaa.Q

namespace Go.Proofs.Ytihfopblmjgfaaa.Q
open Go.RowKit Go.Proofs.YtihfopblmjgfaaaW.PrintWords Go.Proofs.YtihfopblmjgfaaaW.PrintLast Go.Proofs.YtihfopblmjgfaaaW.PrintMore
attribute [local go_sem] max2_int min2_int max_two min_two max_three min_three max_four min_four   -- for this text's walks alone
set_option linter.unusedVariables false
set_option linter.unusedSimpArgs false

/-! ### waveletlaw29_long: function 11 -/
def waveletlaw29_long.f (a0_0 : Int) (l0_1 : List Int) : Option (Bool) := some (decide ((l0_1.length : Int) > 70000))
set_option maxHeartbeats 8000000 in
set_option maxRecDepth 100000 in
theorem waveletlaw29_long.calls (a0_0 : Int) (A0_1 : Option Addr) (c0_1 : Nat) (l0_1 : List Int) (r : Bool) (w : World) (hr0_1 : Kd.C (Kd.int .u8) w A0_1 l0_1.length l0_1) (hc0_1 : l0_1.length ≤ c0_1) (h : waveletlaw29_long.f a0_0 l0_1 = some r) :
    Calls Try.prog 11 #[.agg #[.int .i64 a0_0, .slice A0_1 l0_1.length c0_1]] w fun e w' => e = .returned (.bool r) ∧ Below w.heap.size w w' := by
  have hu26 := Try.underlying26
  have HR0_1 := Aside0.mk hr0_1
  have HC0_1 := Aside0.mk hc0_1
  clear hr0_1 hc0_1
  have HB := Aside0.mk (Below.refl w.heap.size w)
  have H : (some (decide ((l0_1.length : Int) > 70000))) = some r := h
  clear h
  obtain rfl := Option.some.inj H
  go_enter Try.func11, Try.ntmps11
  go_wp2_with (first | ((with_reducible refine gate_dst (N := 1) rfl ?_); refine box_event ?hg (N := 1) ?hd (cs := #[.int .i64 a0_0, .slice A0_1 l0_1.length c0_1]) (t := 26) ?hr ?_; (case hd => rfl); (case hg => rfl); (case hr => first | (go_simp; done) | (go_simp; rfl)); intro gb101 hg w2 hbox hb; have n0_ := Aside0.mk (below_step (by repeat (first | (with_reducible first | exact HB.out | apply below_alloc | apply pw_below_drewN | apply below_drew1) | exact HB.out)) hb); have n1_ := Aside0.mk (hbox); have n2_ := Aside0.mk ((by rw [hg]; exact (below_size (by repeat (first | (with_reducible first | exact HB.out | apply below_alloc | apply pw_below_drewN | apply below_drew1) | exact HB.out))) : w.heap.size ≤ gb101)); have n3_ := Aside0.mk ((by rw [hg]; exact (below_size (by repeat (first | (with_reducible first | exact HB.out | apply below_alloc | apply pw_below_drewN | apply below_drew1) | exact HB.out))) : w.heap.size ≤ gb101)); clear HB; have HB := n0_; have BK101 := n1_; have GW101 := n2_; have GE101 := n3_; clear n0_ n1_ n2_ n3_; clear hb hbox hg; have hcz3_0 : w2.cell? ⟨gb101, 0, none⟩ = some (.int .i64 a0_0) := (blk_cell BK101.out 0).trans rfl; have hcz3_1 : w2.cell? ⟨gb101, 1, none⟩ = some (.slice A0_1 l0_1.length c0_1) := (blk_cell BK101.out 1).trans rfl; have hfz3_0 := blk_frozen BK101.out 0; have hfz3_1 := blk_frozen BK101.out 1))
  go_ret
  exact ⟨by first | rfl | (simp [errW_none, errW_some] <;> rfl) | (simp [*, errW_none, errW_some] <;> rfl), by repeat (first | (with_reducible first | exact HB.out | apply below_alloc | apply pw_below_drewN | apply below_drew1 | refine below_set ?_ GE101.out) | exact HB.out)⟩

end Go.Proofs.Ytihfopblmjgfaaa.Q

namespace Go.Proofs.Ytihfopblmjgfaaa.Q
open Go.RowKit Go.Proofs.YtihfopblmjgfaaaW.PrintWords Go.Proofs.YtihfopblmjgfaaaW.PrintLast Go.Proofs.YtihfopblmjgfaaaW.PrintMore
attribute [local go_sem] max2_int min2_int max_two min_two max_three min_three max_four min_four   -- for this text's walks alone
set_option linter.unusedVariables false
set_option linter.unusedSimpArgs false

/-! ### headseg_within: function 43 -/
def headseg_within.l0 : Nat → Int → Int → List Int → Int → Int → Option (Bool)
  | 0, _, _, _, _, _ => none
  | k + 1, x0, x1, x9, x10, x11 => if x11 < x10 then (if 0 ≤ x11 then (if x11 < (x9.length : Int) then (if (rd x9 x11) < x0 then (some false) else (if (rd x9 x11) > x1 then (some false) else (headseg_within.l0 k x0 x1 x9 x10 (wrap64 (x11 + 1))))) else (none)) else (none)) else (some true)
def headseg_within.f (k : Nat) (a0 : Int) (a1 : Int) (l2 : List Int) : Option (Bool) := headseg_within.l0 k a0 a1 l2 (l2.length : Int) 0
theorem headseg_within.mono_l : ∀ k, (∀ y0 y1 y2 y3 y4, LeO (headseg_within.l0 k y0 y1 y2 y3 y4) (headseg_within.l0 (k + 1) y0 y1 y2 y3 y4))
  | 0 => fun _ _ _ _ _ r h => by simp [headseg_within.l0] at h
  | k + 1 => by
    have ih0 := headseg_within.mono_l k
    · intro y0 y1 y2 y3 y4
      unfold headseg_within.l0
      repeat' first
      | (with_reducible exact ih0 _ _ _ _ _)
      | (with_reducible exact LeO.refl _)
      | (with_reducible exact LeO.none _)
      | (with_reducible refine LeO.ite ?_ ?_)
      | (with_reducible refine LeO.bind ?_ (fun _ => ?_))
      | exact ih0 _ _ _ _ _
      | exact LeO.none _
      | refine LeO.ite ?_ ?_
      | refine LeO.bind ?_ (fun _ => ?_)
theorem headseg_within.mono : ∀ a0 a1 a2 k, LeO (headseg_within.f k a0 a1 a2) (headseg_within.f (k + 1) a0 a1 a2) := by
  intro a0 a1 a2 k
  have ih0 := headseg_within.mono_l k
  unfold headseg_within.f
  repeat' first
      | (with_reducible exact ih0 _ _ _ _ _)
      | (with_reducible exact LeO.refl _)
      | (with_reducible exact LeO.none _)
      | (with_reducible refine LeO.ite ?_ ?_)
      | (with_reducible refine LeO.bind ?_ (fun _ => ?_))
      | exact ih0 _ _ _ _ _
      | exact LeO.none _
      | refine LeO.ite ?_ ?_
      | refine LeO.bind ?_ (fun _ => ?_)
set_option maxHeartbeats 8000000 in
set_option maxRecDepth 100000 in
theorem headseg_within.calls (k : Nat) (a0 : Int) (a1 : Int) (A2 : Option Addr) (c2 : Nat) (l2 : List Int) (r : Bool) (w : World) (hr2 : Kd.C (Kd.int .i64) w A2 l2.length l2) (hc2 : l2.length ≤ c2) (h : headseg_within.f k a0 a1 l2 = some r) :
    Calls Try.prog 43 #[.int .i64 a0, .int .i64 a1, .slice A2 l2.length c2] w fun e w' => e = .returned (.bool r) ∧ Drawn0 w w' := by
  have HR2 := Aside0.mk hr2
  have HC2 := Aside0.mk hc2
  clear hr2 hc2
  have H : (headseg_within.l0 k a0 a1 l2 (l2.length : Int) 0) = some r := h
  clear h
  have H' := Aside0.mk H
  clear H
  go_enter Try.func43, Try.ntmps43
  go_wp2
  go_loopg [11] k (fun kq v11 w' => ∃ (x11_1 : Int), v11 = .int .i64 x11_1 ∧ Aside0 (headseg_within.l0 kq a0 a1 l2 (l2.length : Int) x11_1 = some r) ∧ Aside0 (kq ≤ k) ∧ Drawn0 w w')
  case atStart => exact ⟨(0), (by first | rfl | (simp; done) | (simp [*]; done)), H', ⟨Nat.le_refl _⟩, by repeat (first | exact Drawn0.refl _ | apply Drawn0.step)⟩
  case round =>
    clear H'
    try clear c2
    try clear p2
    obtain ⟨x11_1, rfl, HA, HK1, ⟨m1, rfl⟩⟩ := hrel
    cases gk with
    | zero => exact absurd HA.out (by simp [headseg_within.l0])
    | succ k1 =>
      have H := HA.out
      clear HA
      simp only [headseg_within.l0] at H
      by_cases c4 : x11_1 < (l2.length : Int)
      · rw [if_pos c4] at H
        have c4b0 : decide (x11_1 < (l2.length : Int)) = true := decide_eq_true c4
        clear c4
        by_cases c5 : 0 ≤ x11_1
        · rw [if_pos c5] at H
          have c5b0 : decide (0 ≤ x11_1) = true := decide_eq_true c5
          clear c5
          by_cases c6 : x11_1 < (l2.length : Int)
          · rw [if_pos c6] at H
            have c6b0 : decide (x11_1 < (l2.length : Int)) = true := decide_eq_true c6
            clear c6
            by_cases c7 : (rd l2 x11_1) < a0
            · rw [if_pos c7] at H
              have c7b0 : decide ((rd l2 x11_1) < a0) = true := decide_eq_true c7
              clear c7
              obtain rfl := Option.some.inj H
              have p102 : 0 ≤ (x11_1 : Int) := of_decide_eq_true (by first | (with_reducible assumption) | assumption)
              have q102 : x11_1 < (l2.length : Int) := of_decide_eq_true (by first | (with_reducible assumption) | assumption)
              obtain ⟨ad102, e102, hx102_0⟩ := Kd.at_int HR2.out x11_1 p102 q102
              cases e102
              replace p102 := eq_true p102
              replace q102 := eq_true q102
              go_wp2
              go_ret
              exact ⟨by first | rfl | (simp; done) | (simp [*]; done), by repeat (first | exact Drawn0.refl _ | apply Drawn0.step)⟩
            · rw [if_neg c7] at H
              have c7b0 : decide ((rd l2 x11_1) < a0) = false := decide_eq_false c7
              clear c7
              by_cases c8 : (rd l2 x11_1) > a1
              · rw [if_pos c8] at H
                have c8b0 : decide (a1 < (rd l2 x11_1)) = true := decide_eq_true c8
                clear c8
                obtain rfl := Option.some.inj H
                have p102 : 0 ≤ (x11_1 : Int) := of_decide_eq_true (by first | (with_reducible assumption) | assumption)
                have q102 : x11_1 < (l2.length : Int) := of_decide_eq_true (by first | (with_reducible assumption) | assumption)
                obtain ⟨ad102, e102, hx102_0⟩ := Kd.at_int HR2.out x11_1 p102 q102
                cases e102
                replace p102 := eq_true p102
                replace q102 := eq_true q102
                go_wp2
                go_ret
                exact ⟨by first | rfl | (simp; done) | (simp [*]; done), by repeat (first | exact Drawn0.refl _ | apply Drawn0.step)⟩
              · rw [if_neg c8] at H
                have c8b0 : decide (a1 < (rd l2 x11_1)) = false := decide_eq_false c8
                clear c8
                have H' := Aside0.mk H
                clear H
                have p102 : 0 ≤ (x11_1 : Int) := of_decide_eq_true (by first | (with_reducible assumption) | assumption)
                have q102 : x11_1 < (l2.length : Int) := of_decide_eq_true (by first | (with_reducible assumption) | assumption)
                obtain ⟨ad102, e102, hx102_0⟩ := Kd.at_int HR2.out x11_1 p102 q102
                cases e102
                replace p102 := eq_true p102
                replace q102 := eq_true q102
                go_wp2
                go_roundg k1
                case measure => have := HK1.out; omega
                case rel => exact ⟨(wrap64 (x11_1 + 1)), (by first | rfl | (simp; done) | (simp [*]; done)), H', ⟨by have := HK1.out; omega⟩, by repeat (first | exact Drawn0.refl _ | apply Drawn0.step)⟩
          · rw [if_neg c6] at H
            exact absurd H (by simp)
        · rw [if_neg c5] at H
          exact absurd H (by simp)
      · rw [if_neg c4] at H
        have c4b0 : decide (x11_1 < (l2.length : Int)) = false := decide_eq_false c4
        clear c4
        obtain rfl := Option.some.inj H
        go_wp2
        go_ret
        exact ⟨by first | rfl | (simp; done) | (simp [*]; done), by repeat (first | exact Drawn0.refl _ | apply Drawn0.step)⟩

end Go.Proofs.Ytihfopblmjgfaaa.Q

namespace Go.Proofs.Ytihfopblmjgfaaa.Q
open Go.RowKit Go.Proofs.YtihfopblmjgfaaaW.PrintWords Go.Proofs.YtihfopblmjgfaaaW.PrintLast Go.Proofs.YtihfopblmjgfaaaW.PrintMore
attribute [local go_sem] max2_int min2_int max_two min_two max_three min_three max_four min_four   -- for this text's walks alone
set_option linter.unusedVariables false
set_option linter.unusedSimpArgs false

/-! ### headseg_put: function 44 -/
def headseg_put.l0 : Nat → List Int → Int → Int → Option (List Int)
  | 0, _, _, _ => none
  | k + 1, x0, x2, x7 => if x7 ≥ 0 then (if 0 ≤ (IntKind.u64.wrap (wrap64 (8 * x7))) then (if x0.length < 140737488355328 then (headseg_put.l0 k (x0 ++ [(shr .i64 x2 (IntKind.u64.wrap (wrap64 (8 * x7)))) % 256]) x2 (wrap64 (x7 - 1))) else (none)) else (none)) else (some x0)
def headseg_put.f (k : Nat) (l0 : List Int) (a1 : Int) (a2 : Int) : Option (List Int) := headseg_put.l0 k l0 a2 (wrap64 (a1 - 1))
theorem headseg_put.mono_l : ∀ k, (∀ y0 y1 y2, LeO (headseg_put.l0 k y0 y1 y2) (headseg_put.l0 (k + 1) y0 y1 y2))
  | 0 => fun _ _ _ r h => by simp [headseg_put.l0] at h
  | k + 1 => by
    have ih0 := headseg_put.mono_l k
    · intro y0 y1 y2
      unfold headseg_put.l0
      repeat' first
      | (with_reducible exact ih0 _ _ _)
      | (with_reducible exact LeO.refl _)
      | (with_reducible exact LeO.none _)
      | (with_reducible refine LeO.ite ?_ ?_)
      | (with_reducible refine LeO.bind ?_ (fun _ => ?_))
      | exact ih0 _ _ _
      | exact LeO.none _
      | refine LeO.ite ?_ ?_
      | refine LeO.bind ?_ (fun _ => ?_)
theorem headseg_put.mono : ∀ a0 a1 a2 k, LeO (headseg_put.f k a0 a1 a2) (headseg_put.f (k + 1) a0 a1 a2) := by
  intro a0 a1 a2 k
  have ih0 := headseg_put.mono_l k
  unfold headseg_put.f
  repeat' first
      | (with_reducible exact ih0 _ _ _)
      | (with_reducible exact LeO.refl _)
      | (with_reducible exact LeO.none _)
      | (with_reducible refine LeO.ite ?_ ?_)
      | (with_reducible refine LeO.bind ?_ (fun _ => ?_))
      | exact ih0 _ _ _
      | exact LeO.none _
      | refine LeO.ite ?_ ?_
      | refine LeO.bind ?_ (fun _ => ?_)
set_option maxHeartbeats 8000000 in
set_option maxRecDepth 100000 in
theorem headseg_put.calls (k : Nat) (P0_ : Nat → Prop) (u9000_ : Value) (l0 : List Int) (a1 : Int) (a2 : Int) (r : List Int) (w0 w : World) (hB : Below w0.heap.size w0 w) (ho0 : Kd.R (Kd.int .u8) 5 w w0.heap.size P0_ u9000_ l0) (h : headseg_put.f k l0 a1 a2 = some r) :
    Calls Try.prog 44 #[u9000_, .int .i64 a1, .int .i64 a2] w fun e w' => ∃ v0_ : Value, e = .returned (v0_) ∧ Kd.R (Kd.int .u8) 5 w' w0.heap.size (fun k_ => (P0_ k_ ∨ w.heap.size ≤ k_)) v0_ r ∧ Below w0.heap.size w0 w' ∧ Kept w w' (fun k_ => P0_ k_) := by
  have HO0 := Aside0.mk (show Kd.R (Kd.int .u8) 5 w w0.heap.size (fun k_ => (P0_ k_ ∨ w.heap.size ≤ k_)) u9000_ l0 from Kd.R_mono ho0 (fun k_ hk => (.inl hk)))
  have HK := Aside0.mk (Kept.refl w (fun k_ => P0_ k_))
  have HW0 := Aside0.mk hB.size
  have HB := Aside0.mk hB
  clear hB
  have H : (headseg_put.l0 k l0 a2 (wrap64 (a1 - 1))) = some r := h
  clear h
  have H' := Aside0.mk H
  clear H
  go_enter Try.func44, Try.ntmps44
  go_wp2
  go_loopg [0, 7] k (fun kq v0 v7 w' => ∃ (x0_1 : List Int) (x7_1 : Int), v7 = .int .i64 x7_1 ∧ Aside0 (headseg_put.l0 kq x0_1 a2 x7_1 = some r) ∧ Aside0 (kq ≤ k) ∧ Aside0 (Kd.R (Kd.int .u8) 5 w' w0.heap.size (fun k_ => (P0_ k_ ∨ w.heap.size ≤ k_)) v0 x0_1) ∧ Aside0 (Kept w w' (fun k_ => P0_ k_)) ∧ Aside0 (Below w0.heap.size w0 w'))
  case atStart => exact ⟨(l0), (wrap64 (a1 - 1)), (by first | rfl | (simp; done) | (simp [*]; done)), H', ⟨Nat.le_refl _⟩, ⟨by (with_reducible repeat (first | apply Kd.R_alloc | apply Kd.R_drewN | apply Kd.R_drew)); exact HO0.out⟩, ⟨by repeat (first | (with_reducible first | exact HK.out | apply Kept.alloc | apply Kept.drewN | apply Kept.drew) | exact HK.out)⟩, ⟨by repeat (first | (with_reducible first | exact HB.out | apply below_alloc | apply pw_below_drewN | apply below_drew1) | exact HB.out)⟩⟩
  case round =>
    clear H'
    try clear p2
    obtain ⟨x0_1, x7_1, rfl, HA, HK1, HO_0, HK, HB⟩ := hrel
    cases gk with
    | zero => exact absurd HA.out (by simp [headseg_put.l0])
    | succ k1 =>
      have H := HA.out
      clear HA
      simp only [headseg_put.l0] at H
      by_cases c4 : x7_1 ≥ 0
      · rw [if_pos c4] at H
        have c4b0 : decide (0 ≤ x7_1) = true := decide_eq_true c4
        clear c4
        obtain ⟨ji5, hji5⟩ : ∃ j_ : Int, (IntKind.u64.wrap (wrap64 (8 * x7_1))) = j_ := ⟨_, rfl⟩
        replace H : (if 0 ≤ (ji5) then (if x0_1.length < 140737488355328 then (headseg_put.l0 k1 (x0_1 ++ [(shr .i64 a2 (ji5)) % 256]) a2 (wrap64 (x7_1 - 1))) else (none)) else (none)) = some r := by first | (rw [hji5] at H; exact H) | (simp only [hji5] at H ⊢; exact H)
        by_cases c6 : 0 ≤ (ji5)
        · rw [if_pos c6] at H
          have c6b0 := eq_true c6
          have c6b1 : decide (0 ≤ (ji5)) = true := decide_eq_true c6
          clear c6
          obtain ⟨ji7, hji7⟩ : ∃ j_ : Int, (shr .i64 a2 (ji5)) = j_ := ⟨_, rfl⟩
          replace H : (if x0_1.length < 140737488355328 then (headseg_put.l0 k1 (x0_1 ++ [(ji7) % 256]) a2 (wrap64 (x7_1 - 1))) else (none)) = some r := by first | (rw [hji7] at H; exact H) | (simp only [hji7] at H ⊢; exact H)
          have hji7_ : (a2 / 2 ^ min (ji5).toNat 64) = ji7 := hji7
          have hji7z : (ji5) ≤ 64 → (a2 / 2 ^ (ji5).toNat) = ji7 := shr_small hji7
          by_cases c8 : x0_1.length < 140737488355328
          · rw [if_pos c8] at H
            have LMc8 := Aside0.mk c8
            clear c8
            obtain ⟨y103, hy103⟩ : ∃ y_ : List Int, y_ = (x0_1 ++ [(ji7) % 256]) := ⟨_, rfl⟩
            replace H : (headseg_put.l0 k1 y103 a2 (wrap64 (x7_1 - 1))) = some r := by first | (rw [hy103]; with_reducible exact H) | (have H2_ := (Option.bind_some _ _).symm.trans H; rw [hy103]; with_reducible exact H2_) | (have H2_ := (Option.bind_some _ _).symm.trans H; with_reducible exact H2_) | with_reducible exact H | (rw [hy103]; exact H) | exact H
            have Ny103 := Aside0.mk hy103
            clear hy103
            have H' := Aside0.mk H
            clear H
            go_wp2_with (first | ((with_reducible refine gate_builtin (b := .append) (xs := #[.tmp 14, .tmp 21]) rfl ?_); at_builtin; refine Kd.R_append (Kd.int .u8) (w0 := w0) w0.heap.size rfl (.tmp 14) (.tmp 21) 24 5 (.int .u8 0) 1 rfl Try.underlying24 info5 rfl (by decide) (by omega) u0 x0_1 ((ji7) % 256) [.int .u8 ((ji7) % 256)] (fun k_ => (P0_ k_ ∨ w.heap.size ≤ k_)) (fun _ => False) rfl rfl ?aP (fun _ hk => hk.elim) ?aF ?aO ?aB ?aS ?aL ?_; (case aP => exact rfl); (case aB => exact (by repeat (first | (with_reducible first | exact HB.out | apply below_alloc | apply pw_below_drewN | apply below_drew1) | exact HB.out))); (case aF => exact (fun k_ hk => (.inr (Nat.le_trans (by first | exact HK.out.1 | exact (show Kept w _ (fun k_ => P0_ k_) from by repeat (first | (with_reducible first | exact HK.out | apply Kept.alloc | apply Kept.drewN | apply Kept.drew) | exact HK.out)).1) hk)))); (case aO => exact (by (with_reducible repeat (first | apply Kd.R_alloc | apply Kd.R_drewN | apply Kd.R_drew)); exact HO_0.out)); (case aS => exact (below_size (by repeat (first | (with_reducible first | exact HB.out | apply below_alloc | apply pw_below_drewN | apply below_drew1) | exact HB.out)))); (case aL => have := LMc8.out; omega); intro v104 w9 ho hb hg hat; rw [← Ny103.out] at ho; have n0_ := Aside0.mk (hb); have n1_ := Aside0.mk (Kept.of_grown (S := (fun k_ => P0_ k_)) hg (by repeat (first | (with_reducible first | exact HK.out | apply Kept.alloc | apply Kept.drewN | apply Kept.drew) | exact HK.out)) (fun k_ e_ => (HO_0.out.1 k_ e_))); have n2_ := Aside0.mk (ho); clear HB; clear HK; clear HO_0; have HB := n0_; have HK := n1_; have HO105 := n2_; clear n0_ n1_ n2_; clear ho hb hg hat))
            go_roundg k1
            case measure => have := HK1.out; omega
            case rel => exact ⟨(y103), (wrap64 (x7_1 - 1)), (by first | rfl | (simp; done) | (simp [*]; done)), H', ⟨by have := HK1.out; omega⟩, ⟨by (with_reducible repeat (first | apply Kd.R_alloc | apply Kd.R_drewN | apply Kd.R_drew)); exact HO105.out⟩, ⟨by repeat (first | (with_reducible first | exact HK.out | apply Kept.alloc | apply Kept.drewN | apply Kept.drew) | exact HK.out)⟩, ⟨by repeat (first | (with_reducible first | exact HB.out | apply below_alloc | apply pw_below_drewN | apply below_drew1) | exact HB.out)⟩⟩
          · rw [if_neg c8] at H
            exact absurd H (by simp)
        · rw [if_neg c6] at H
          exact absurd H (by simp)
      · rw [if_neg c4] at H
        have c4b0 : decide (0 ≤ x7_1) = false := decide_eq_false c4
        clear c4
        obtain rfl := Option.some.inj H
        go_wp2
        go_ret
        exact ⟨_, by first | rfl | (simp [errW_none, errW_some] <;> rfl) | (simp [*, errW_none, errW_some] <;> rfl), by (with_reducible repeat (first | apply Kd.R_alloc | apply Kd.R_drewN | apply Kd.R_drew)); exact HO_0.out, by repeat (first | (with_reducible first | exact HB.out | apply below_alloc | apply pw_below_drewN | apply below_drew1) | exact HB.out), by repeat (first | (with_reducible first | exact HK.out | apply Kept.alloc | apply Kept.drewN | apply Kept.drew) | exact HK.out)⟩

end Go.Proofs.Ytihfopblmjgfaaa.Q

namespace Go.Proofs.Ytihfopblmjgfaaa.Q
open Go.RowKit Go.Proofs.YtihfopblmjgfaaaW.PrintWords Go.Proofs.YtihfopblmjgfaaaW.PrintLast Go.Proofs.YtihfopblmjgfaaaW.PrintMore
attribute [local go_sem] max2_int min2_int max_two min_two max_three min_three max_four min_four   -- for this text's walks alone
set_option linter.unusedVariables false
set_option linter.unusedSimpArgs false

/-! ### headseg_Tile: function 18 -/
def headseg_Tile.j0 : Nat → Int → Int → Int → Int → Bool → Option (Int × List Int × Int)
  | 0, _, _, _, _, _ => none
  | k + 1, x0, x1, x2, x3, x27 => if x27 = true then (some (0, ([] : List Int), 2)) else ((headseg_put.f k ([] : List Int) 2 x0).bind fun t119 => ((some (([(x1) % 256, (x2) % 256] : List Int) : List Int)).bind fun y122 => (if t119.length + y122.length < 140737488355328 then ((headseg_put.f k (t119 ++ y122) 4 x3).bind fun t128 => (some (65456, t128, 0))) else (none))))
def headseg_Tile.f (k : Nat) (a0 : Int) (a1 : Int) (a2 : Int) (a3 : Int) : Option (Int × List Int × Int) := (headseg_within.f k 0 65535 (([a0] : List Int))).bind fun t110 => (if t110 = true then ((headseg_within.f k 0 255 (([a1, a2] : List Int))).bind fun t114 => (if t114 = true then ((headseg_within.f k 0 4294967295 (([a3] : List Int))).bind fun t118 => (headseg_Tile.j0 k a0 a1 a2 a3 (!t118))) else (headseg_Tile.j0 k a0 a1 a2 a3 true))) else (headseg_Tile.j0 k a0 a1 a2 a3 true))
theorem headseg_Tile.mono_l : ∀ k, (∀ y0 y1 y2 y3 y4, LeO (headseg_Tile.j0 k y0 y1 y2 y3 y4) (headseg_Tile.j0 (k + 1) y0 y1 y2 y3 y4))
  | 0 => fun _ _ _ _ _ r h => by simp [headseg_Tile.j0] at h
  | k + 1 => by
    have ih0 := headseg_Tile.mono_l k
    · intro y0 y1 y2 y3 y4
      unfold headseg_Tile.j0
      repeat' first
      | (with_reducible exact ih0 _ _ _ _ _)
      | (with_reducible exact headseg_put.mono _ _ _ _)
      | (with_reducible exact headseg_within.mono _ _ _ _)
      | (with_reducible exact LeO.refl _)
      | (with_reducible exact LeO.none _)
      | (with_reducible refine LeO.ite ?_ ?_)
      | (with_reducible refine LeO.bind ?_ (fun _ => ?_))
      | exact ih0 _ _ _ _ _
      | exact headseg_put.mono _ _ _ _
      | exact headseg_within.mono _ _ _ _
      | exact LeO.none _
      | refine LeO.ite ?_ ?_
      | refine LeO.bind ?_ (fun _ => ?_)
theorem headseg_Tile.mono : ∀ a0 a1 a2 a3 k, LeO (headseg_Tile.f k a0 a1 a2 a3) (headseg_Tile.f (k + 1) a0 a1 a2 a3) := by
  intro a0 a1 a2 a3 k
  have ih0 := headseg_Tile.mono_l k
  unfold headseg_Tile.f
  repeat' first
      | (with_reducible exact ih0 _ _ _ _ _)
      | (with_reducible exact headseg_put.mono _ _ _ _)
      | (with_reducible exact headseg_within.mono _ _ _ _)
      | (with_reducible exact LeO.refl _)
      | (with_reducible exact LeO.none _)
      | (with_reducible refine LeO.ite ?_ ?_)
      | (with_reducible refine LeO.bind ?_ (fun _ => ?_))
      | exact ih0 _ _ _ _ _
      | exact headseg_put.mono _ _ _ _
      | exact headseg_within.mono _ _ _ _
      | exact LeO.none _
      | refine LeO.ite ?_ ?_
      | refine LeO.bind ?_ (fun _ => ?_)
set_option maxHeartbeats 8000000 in
set_option maxRecDepth 100000 in
theorem headseg_Tile.calls (k : Nat) (a0 : Int) (a1 : Int) (a2 : Int) (a3 : Int) (r1 : Int) (r2 : List Int) (r3 : Int) (w : World) (h : headseg_Tile.f k a0 a1 a2 a3 = some (r1, r2, r3)) :
    Calls Try.prog 18 #[.int .i64 a0, .int .i64 a1, .int .i64 a2, .int .i64 a3] w fun e w' => ∃ v1_ : Value, e = .returned (.tuple #[.agg #[.int .i64 r1, v1_], .int .i64 r3]) ∧ Kd.R (Kd.int .u8) 5 w' w.heap.size (fun _ => True) v1_ r2 ∧ Below w.heap.size w w' := by
  have hu26 := Try.underlying26
  have HB := Aside0.mk (Below.refl w.heap.size w)
  have H : ((headseg_within.f k 0 65535 (([a0] : List Int))).bind fun t110 => (if t110 = true then ((headseg_within.f k 0 255 (([a1, a2] : List Int))).bind fun t114 => (if t114 = true then ((headseg_within.f k 0 4294967295 (([a3] : List Int))).bind fun t118 => (headseg_Tile.j0 k a0 a1 a2 a3 (!t118))) else (headseg_Tile.j0 k a0 a1 a2 a3 true))) else (headseg_Tile.j0 k a0 a1 a2 a3 true))) = some (r1, r2, r3) := h
  clear h
  have HC5 := Aside0.mk H
  clear H
  go_enter Try.func18, Try.ntmps18
  go_upto_region 1 with (first | ((with_reducible refine gate_dst (N := 8) rfl ?_); (try (refine gate_guard (by rfl) ?_; dsimp only)); refine box_event ?hg (N := 8) ?hd (cs := #[.int .i64 0, .slice none 0 0]) (t := 26) ?hr ?_; (case hd => rfl); (case hg => rfl); (case hr => first | (go_simp; done) | (go_simp; rfl)); intro gb106 hg w6 hbox hb; have n0_ := Aside0.mk (below_step (by repeat (first | (with_reducible first | exact HB.out | apply below_alloc | apply pw_below_drewN | apply below_drew1) | exact HB.out)) hb); have n1_ := Aside0.mk (hbox); have n2_ := Aside0.mk ((by rw [hg]; exact (below_size (by repeat (first | (with_reducible first | exact HB.out | apply below_alloc | apply pw_below_drewN | apply below_drew1) | exact HB.out))) : w.heap.size ≤ gb106)); have n3_ := Aside0.mk ((by rw [hg]; exact (below_size (by repeat (first | (with_reducible first | exact HB.out | apply below_alloc | apply pw_below_drewN | apply below_drew1) | exact HB.out))) : w.heap.size ≤ gb106)); clear HB; have HB := n0_; have BK106 := n1_; have GW106 := n2_; have GE106 := n3_; clear n0_ n1_ n2_ n3_; clear hb hbox hg))
  (try simp only [Act.put, List.setIfInBounds_toArray, List.set_cons_zero, List.set_cons_succ])
  go_cut [27] (fun v27 wc => ∃ (kq : Nat) (x27_4 : Bool), v27 = .bool x27_4 ∧ Aside0 (headseg_Tile.j0 kq a0 a1 a2 a3 x27_4 = some (r1, r2, r3)) ∧ Aside0 (kq ≤ k) ∧ Aside0 (wc.heap[gb106]? = some (.cells #[.int .i64 0, (.slice none 0 0)] 26 (0, 0))) ∧ Aside0 (Below w.heap.size w wc))
  case first =>
    have H := HC5.out
    clear HC5
    obtain ⟨y107, hy107⟩ : ∃ y_ : List Int, y_ = (([a0] : List Int)) := ⟨_, rfl⟩
    replace H : ((headseg_within.f k 0 65535 y107).bind fun t110 => (if t110 = true then ((headseg_within.f k 0 255 (([a1, a2] : List Int))).bind fun t114 => (if t114 = true then ((headseg_within.f k 0 4294967295 (([a3] : List Int))).bind fun t118 => (headseg_Tile.j0 k a0 a1 a2 a3 (!t118))) else (headseg_Tile.j0 k a0 a1 a2 a3 true))) else (headseg_Tile.j0 k a0 a1 a2 a3 true))) = some (r1, r2, r3) := by first | (rw [hy107]; with_reducible exact H) | (have H2_ := (Option.bind_some _ _).symm.trans H; rw [hy107]; with_reducible exact H2_) | (have H2_ := (Option.bind_some _ _).symm.trans H; with_reducible exact H2_) | with_reducible exact H | (rw [hy107]; exact H) | exact H
    have Ny107 := Aside0.mk hy107
    clear hy107
    replace H := Option.bind_eq_some_iff.mp H
    obtain ⟨t110, A70, H⟩ := H
    replace H : (if t110 = true then ((headseg_within.f k 0 255 (([a1, a2] : List Int))).bind fun t114 => (if t114 = true then ((headseg_within.f k 0 4294967295 (([a3] : List Int))).bind fun t118 => (headseg_Tile.j0 k a0 a1 a2 a3 (!t118))) else (headseg_Tile.j0 k a0 a1 a2 a3 true))) else (headseg_Tile.j0 k a0 a1 a2 a3 true)) = some (r1, r2, r3) := H
    have A7 := Aside0.mk A70
    clear A70
    by_cases c8 : t110 = true
    · subst c8
      have H1 : ((headseg_within.f k 0 255 (([a1, a2] : List Int))).bind fun t114 => (if t114 = true then ((headseg_within.f k 0 4294967295 (([a3] : List Int))).bind fun t118 => (headseg_Tile.j0 k a0 a1 a2 a3 (!t118))) else (headseg_Tile.j0 k a0 a1 a2 a3 true))) = some (r1, r2, r3) := by rw [if_pos rfl] at H; exact H
      clear H
      have H := H1
      clear H1
      obtain ⟨y111, hy111⟩ : ∃ y_ : List Int, y_ = (([a1, a2] : List Int)) := ⟨_, rfl⟩
      replace H : ((headseg_within.f k 0 255 y111).bind fun t114 => (if t114 = true then ((headseg_within.f k 0 4294967295 (([a3] : List Int))).bind fun t118 => (headseg_Tile.j0 k a0 a1 a2 a3 (!t118))) else (headseg_Tile.j0 k a0 a1 a2 a3 true))) = some (r1, r2, r3) := by first | (rw [hy111]; with_reducible exact H) | (have H2_ := (Option.bind_some _ _).symm.trans H; rw [hy111]; with_reducible exact H2_) | (have H2_ := (Option.bind_some _ _).symm.trans H; with_reducible exact H2_) | with_reducible exact H | (rw [hy111]; exact H) | exact H
      have Ny111 := Aside0.mk hy111
      clear hy111
      replace H := Option.bind_eq_some_iff.mp H
      obtain ⟨t114, A90, H⟩ := H
      replace H : (if t114 = true then ((headseg_within.f k 0 4294967295 (([a3] : List Int))).bind fun t118 => (headseg_Tile.j0 k a0 a1 a2 a3 (!t118))) else (headseg_Tile.j0 k a0 a1 a2 a3 true)) = some (r1, r2, r3) := H
      have A9 := Aside0.mk A90
      clear A90
      by_cases c10 : t114 = true
      · subst c10
        have H1 : ((headseg_within.f k 0 4294967295 (([a3] : List Int))).bind fun t118 => (headseg_Tile.j0 k a0 a1 a2 a3 (!t118))) = some (r1, r2, r3) := by rw [if_pos rfl] at H; exact H
        clear H
        have H := H1
        clear H1
        obtain ⟨y115, hy115⟩ : ∃ y_ : List Int, y_ = (([a3] : List Int)) := ⟨_, rfl⟩
        replace H : ((headseg_within.f k 0 4294967295 y115).bind fun t118 => (headseg_Tile.j0 k a0 a1 a2 a3 (!t118))) = some (r1, r2, r3) := by first | (rw [hy115]; with_reducible exact H) | (have H2_ := (Option.bind_some _ _).symm.trans H; rw [hy115]; with_reducible exact H2_) | (have H2_ := (Option.bind_some _ _).symm.trans H; with_reducible exact H2_) | with_reducible exact H | (rw [hy115]; exact H) | exact H
        have Ny115 := Aside0.mk hy115
        clear hy115
        replace H := Option.bind_eq_some_iff.mp H
        obtain ⟨t118, A110, H⟩ := H
        replace H : (headseg_Tile.j0 k a0 a1 a2 a3 (!t118)) = some (r1, r2, r3) := H
        have A11 := Aside0.mk A110
        clear A110
        have H' := Aside0.mk H
        clear H
        go_wp2_with (first | ((with_reducible refine gate_dst (N := 12) rfl ?_); (try (refine gate_guard (by rfl) ?_; dsimp only)); refine Kd.R_lit (Kd.int .i64) _ 3 ?hg (N := 12) ?hd (xs := ([a0] : List Int)) (inner := [.int .i64 a0]) (ok := fun _ => True) (okp := fun _ => True) ?hr ?hp (fun _ hk => hk) trivial (Below.refl _ _) (Nat.le_refl _) (by simp) ?_; (case hd => rfl); (case hg => rfl); (case hr => first | (go_simp; done) | (go_simp; rfl)); (case hp => exact (Reps.one (show Kd.M (Kd.int .i64) _ _ _ a0 [.int .i64 a0] from rfl) (Reps.none _ _))); intro v108 w12 ho13 hb hg_ hnew_; clear hg_ hnew_; (first | rw [← Ny107.out] at ho13 | (simp only [Int.reduceToNat] at ho13; rw [← Ny107.out] at ho13)); have n0_ := Aside0.mk (Kd.R_lower ho13 (below_size (by repeat (first | (with_reducible first | exact HB.out | apply below_alloc | apply pw_below_drewN | apply below_drew1 | refine below_set ?_ GE106.out) | exact HB.out)))); have n1_ := Aside0.mk (blk_below (g := gb106) (o := .cells #[.int .i64 0, .slice none 0 0] 26 (0, 0)) (by (with_reducible repeat (first | refine blk_drewN ?_ _ | refine blk_drew ?_ | refine blk_alloc ?_ _)); exact BK106.out) hb); have n2_ := Aside0.mk (below_step (by repeat (first | (with_reducible first | exact HB.out | apply below_alloc | apply pw_below_drewN | apply below_drew1 | refine below_set ?_ GE106.out) | exact HB.out)) hb); clear BK106; clear HB; have HO109 := n0_; have BK106 := n1_; have HB := n2_; clear n0_ n1_ n2_; clear hb ho13; obtain ⟨Ao14, co14, eo14⟩ := Kd.R_slice HO109.out; subst eo14) | ((with_reducible refine gate_callee (f := 43) rfl ?_); refine goesL_ (some 13) rfl rfl Try.func43 (by kernel_rfl) rfl #[.int .i64 0, .int .i64 65535, .slice Ao14 y107.length co14] rfl (by (try simp only [List.map_toArray, List.map_cons, List.map_nil]); first | done | rfl | (simp only [List.length_drop, List.length_take]; rfl)) ?_; (with_reducible refine (headseg_within.calls k 0 65535 _ _ y107 true _ ?side1 ?side2 A7.out).mono ?_); (case side1 => repeat (first | exact (Kd.R_reads' HO109.out).2.2 | (with_reducible refine Kd.C_alloc ?_ _) | (with_reducible refine Kd.C_drewN ?_ _) | (with_reducible refine Kd.C_drew ?_))); (case side2 => exact (Kd.R_reads' HO109.out).2.1); rintro e w' ⟨rfl, ⟨nd, rfl⟩⟩; refine ⟨_, rfl, ?_⟩) | ((with_reducible refine gate_dst (N := 18) rfl ?_); (try (refine gate_guard (by rfl) ?_; dsimp only)); refine Kd.R_lit (Kd.int .i64) _ 3 ?hg (N := 18) ?hd (xs := ([a1, a2] : List Int)) (inner := [.int .i64 a1, .int .i64 a2]) (ok := fun _ => True) (okp := fun _ => True) ?hr ?hp (fun _ hk => hk) trivial (Below.refl _ _) (Nat.le_refl _) (by simp) ?_; (case hd => rfl); (case hg => rfl); (case hr => first | (go_simp; done) | (go_simp; rfl)); (case hp => exact (Reps.one (show Kd.M (Kd.int .i64) _ _ _ a1 [.int .i64 a1] from rfl) (Reps.one (show Kd.M (Kd.int .i64) _ _ _ a2 [.int .i64 a2] from rfl) (Reps.none _ _)))); intro v112 w15 ho16 hb hg_ hnew_; clear hg_ hnew_; (first | rw [← Ny111.out] at ho16 | (simp only [Int.reduceToNat] at ho16; rw [← Ny111.out] at ho16)); have n0_ := Aside0.mk (Kd.R_elder' (by (with_reducible repeat (first | apply Kd.R_alloc | apply Kd.R_drewN | apply Kd.R_drew)); exact HO109.out) (Kd.R_base ho16) hb); have n1_ := Aside0.mk (Kd.R_lower (Kd.R_new' ho16 (Kd.R_lt (by (with_reducible repeat (first | apply Kd.R_alloc | apply Kd.R_drewN | apply Kd.R_drew)); exact HO109.out))) (below_size (by repeat (first | (with_reducible first | exact HB.out | apply below_alloc | apply pw_below_drewN | apply below_drew1 | refine below_set ?_ GE106.out) | exact HB.out)))); have n2_ := Aside0.mk (blk_below (g := gb106) (o := .cells #[.int .i64 0, .slice none 0 0] 26 (0, 0)) (by (with_reducible repeat (first | refine blk_drewN ?_ _ | refine blk_drew ?_ | refine blk_alloc ?_ _)); exact BK106.out) hb); have n3_ := Aside0.mk (below_step (by repeat (first | (with_reducible first | exact HB.out | apply below_alloc | apply pw_below_drewN | apply below_drew1 | refine below_set ?_ GE106.out) | exact HB.out)) hb); clear HO109; clear BK106; clear HB; have HO109 := n0_; have HO113 := n1_; have BK106 := n2_; have HB := n3_; clear n0_ n1_ n2_ n3_; clear hb ho16; obtain ⟨Ao17, co17, eo17⟩ := Kd.R_slice HO113.out; subst eo17) | (go_at_call 43; (with_reducible refine (headseg_within.calls k 0 255 _ _ y111 true _ ?side1 ?side2 A9.out).mono ?_); (case side1 => repeat (first | exact (Kd.R_reads' HO113.out).2.2 | (with_reducible refine Kd.C_alloc ?_ _) | (with_reducible refine Kd.C_drewN ?_ _) | (with_reducible refine Kd.C_drew ?_))); (case side2 => exact (Kd.R_reads' HO113.out).2.1); rintro e w' ⟨rfl, ⟨nd, rfl⟩⟩) | ((with_reducible refine gate_dst (N := 24) rfl ?_); (try (refine gate_guard (by rfl) ?_; dsimp only)); refine Kd.R_lit (Kd.int .i64) _ 3 ?hg (N := 24) ?hd (xs := ([a3] : List Int)) (inner := [.int .i64 a3]) (ok := fun _ => True) (okp := fun _ => True) ?hr ?hp (fun _ hk => hk) trivial (Below.refl _ _) (Nat.le_refl _) (by simp) ?_; (case hd => rfl); (case hg => rfl); (case hr => first | (go_simp; done) | (go_simp; rfl)); (case hp => exact (Reps.one (show Kd.M (Kd.int .i64) _ _ _ a3 [.int .i64 a3] from rfl) (Reps.none _ _))); intro v116 w18 ho19 hb hg_ hnew_; clear hg_ hnew_; (first | rw [← Ny115.out] at ho19 | (simp only [Int.reduceToNat] at ho19; rw [← Ny115.out] at ho19)); have n0_ := Aside0.mk (Kd.R_elder' (by (with_reducible repeat (first | apply Kd.R_alloc | apply Kd.R_drewN | apply Kd.R_drew)); exact HO109.out) (Kd.R_base ho19) hb); have n1_ := Aside0.mk (Kd.R_elder' (by (with_reducible repeat (first | apply Kd.R_alloc | apply Kd.R_drewN | apply Kd.R_drew)); exact HO113.out) (Kd.R_base ho19) hb); have n2_ := Aside0.mk (Kd.R_lower (Kd.R_new' (Kd.R_new' ho19 (Kd.R_lt (by (with_reducible repeat (first | apply Kd.R_alloc | apply Kd.R_drewN | apply Kd.R_drew)); exact HO109.out))) (Kd.R_lt (by (with_reducible repeat (first | apply Kd.R_alloc | apply Kd.R_drewN | apply Kd.R_drew)); exact HO113.out))) (below_size (by repeat (first | (with_reducible first | exact HB.out | apply below_alloc | apply pw_below_drewN | apply below_drew1 | refine below_set ?_ GE106.out) | exact HB.out)))); have n3_ := Aside0.mk (blk_below (g := gb106) (o := .cells #[.int .i64 0, .slice none 0 0] 26 (0, 0)) (by (with_reducible repeat (first | refine blk_drewN ?_ _ | refine blk_drew ?_ | refine blk_alloc ?_ _)); exact BK106.out) hb); have n4_ := Aside0.mk (below_step (by repeat (first | (with_reducible first | exact HB.out | apply below_alloc | apply pw_below_drewN | apply below_drew1 | refine below_set ?_ GE106.out) | exact HB.out)) hb); clear HO109; clear HO113; clear BK106; clear HB; have HO109 := n0_; have HO113 := n1_; have HO117 := n2_; have BK106 := n3_; have HB := n4_; clear n0_ n1_ n2_ n3_ n4_; clear hb ho19; obtain ⟨Ao20, co20, eo20⟩ := Kd.R_slice HO117.out; subst eo20) | (go_at_call 43; (with_reducible refine (headseg_within.calls k 0 4294967295 _ _ y115 t118 _ ?side1 ?side2 A11.out).mono ?_); (case side1 => repeat (first | exact (Kd.R_reads' HO117.out).2.2 | (with_reducible refine Kd.C_alloc ?_ _) | (with_reducible refine Kd.C_drewN ?_ _) | (with_reducible refine Kd.C_drew ?_))); (case side2 => exact (Kd.R_reads' HO117.out).2.1); rintro e w' ⟨rfl, ⟨nd, rfl⟩⟩))
        go_meet
        case rel => exact ⟨_, (!t118), (by first | rfl | (simp; done) | (simp [*]; done)), H', ⟨by first | omega | exact Nat.le_refl _⟩, ⟨by (with_reducible repeat (first | refine blk_drewN ?_ _ | refine blk_drew ?_ | refine blk_alloc ?_ _)); exact BK106.out⟩, ⟨by repeat (first | (with_reducible first | exact HB.out | apply below_alloc | apply pw_below_drewN | apply below_drew1 | refine below_set ?_ GE106.out) | exact HB.out)⟩⟩
      · replace c10 := Bool.eq_false_iff.mpr c10
        subst c10
        have H1 : (headseg_Tile.j0 k a0 a1 a2 a3 true) = some (r1, r2, r3) := by rw [if_neg (show ¬ (false = true) by decide)] at H; exact H
        clear H
        have H := H1
        clear H1
        have H' := Aside0.mk H
        clear H
        go_wp2_with (first | ((with_reducible refine gate_dst (N := 12) rfl ?_); (try (refine gate_guard (by rfl) ?_; dsimp only)); refine Kd.R_lit (Kd.int .i64) _ 3 ?hg (N := 12) ?hd (xs := ([a0] : List Int)) (inner := [.int .i64 a0]) (ok := fun _ => True) (okp := fun _ => True) ?hr ?hp (fun _ hk => hk) trivial (Below.refl _ _) (Nat.le_refl _) (by simp) ?_; (case hd => rfl); (case hg => rfl); (case hr => first | (go_simp; done) | (go_simp; rfl)); (case hp => exact (Reps.one (show Kd.M (Kd.int .i64) _ _ _ a0 [.int .i64 a0] from rfl) (Reps.none _ _))); intro v108 w21 ho22 hb hg_ hnew_; clear hg_ hnew_; (first | rw [← Ny107.out] at ho22 | (simp only [Int.reduceToNat] at ho22; rw [← Ny107.out] at ho22)); have n0_ := Aside0.mk (Kd.R_lower ho22 (below_size (by repeat (first | (with_reducible first | exact HB.out | apply below_alloc | apply pw_below_drewN | apply below_drew1 | refine below_set ?_ GE106.out) | exact HB.out)))); have n1_ := Aside0.mk (blk_below (g := gb106) (o := .cells #[.int .i64 0, .slice none 0 0] 26 (0, 0)) (by (with_reducible repeat (first | refine blk_drewN ?_ _ | refine blk_drew ?_ | refine blk_alloc ?_ _)); exact BK106.out) hb); have n2_ := Aside0.mk (below_step (by repeat (first | (with_reducible first | exact HB.out | apply below_alloc | apply pw_below_drewN | apply below_drew1 | refine below_set ?_ GE106.out) | exact HB.out)) hb); clear BK106; clear HB; have HO109 := n0_; have BK106 := n1_; have HB := n2_; clear n0_ n1_ n2_; clear hb ho22; obtain ⟨Ao23, co23, eo23⟩ := Kd.R_slice HO109.out; subst eo23) | ((with_reducible refine gate_callee (f := 43) rfl ?_); refine goesL_ (some 13) rfl rfl Try.func43 (by kernel_rfl) rfl #[.int .i64 0, .int .i64 65535, .slice Ao23 y107.length co23] rfl (by (try simp only [List.map_toArray, List.map_cons, List.map_nil]); first | done | rfl | (simp only [List.length_drop, List.length_take]; rfl)) ?_; (with_reducible refine (headseg_within.calls k 0 65535 _ _ y107 true _ ?side1 ?side2 A7.out).mono ?_); (case side1 => repeat (first | exact (Kd.R_reads' HO109.out).2.2 | (with_reducible refine Kd.C_alloc ?_ _) | (with_reducible refine Kd.C_drewN ?_ _) | (with_reducible refine Kd.C_drew ?_))); (case side2 => exact (Kd.R_reads' HO109.out).2.1); rintro e w' ⟨rfl, ⟨nd, rfl⟩⟩; refine ⟨_, rfl, ?_⟩) | ((with_reducible refine gate_dst (N := 18) rfl ?_); (try (refine gate_guard (by rfl) ?_; dsimp only)); refine Kd.R_lit (Kd.int .i64) _ 3 ?hg (N := 18) ?hd (xs := ([a1, a2] : List Int)) (inner := [.int .i64 a1, .int .i64 a2]) (ok := fun _ => True) (okp := fun _ => True) ?hr ?hp (fun _ hk => hk) trivial (Below.refl _ _) (Nat.le_refl _) (by simp) ?_; (case hd => rfl); (case hg => rfl); (case hr => first | (go_simp; done) | (go_simp; rfl)); (case hp => exact (Reps.one (show Kd.M (Kd.int .i64) _ _ _ a1 [.int .i64 a1] from rfl) (Reps.one (show Kd.M (Kd.int .i64) _ _ _ a2 [.int .i64 a2] from rfl) (Reps.none _ _)))); intro v112 w24 ho25 hb hg_ hnew_; clear hg_ hnew_; (first | rw [← Ny111.out] at ho25 | (simp only [Int.reduceToNat] at ho25; rw [← Ny111.out] at ho25)); have n0_ := Aside0.mk (Kd.R_elder' (by (with_reducible repeat (first | apply Kd.R_alloc | apply Kd.R_drewN | apply Kd.R_drew)); exact HO109.out) (Kd.R_base ho25) hb); have n1_ := Aside0.mk (Kd.R_lower (Kd.R_new' ho25 (Kd.R_lt (by (with_reducible repeat (first | apply Kd.R_alloc | apply Kd.R_drewN | apply Kd.R_drew)); exact HO109.out))) (below_size (by repeat (first | (with_reducible first | exact HB.out | apply below_alloc | apply pw_below_drewN | apply below_drew1 | refine below_set ?_ GE106.out) | exact HB.out)))); have n2_ := Aside0.mk (blk_below (g := gb106) (o := .cells #[.int .i64 0, .slice none 0 0] 26 (0, 0)) (by (with_reducible repeat (first | refine blk_drewN ?_ _ | refine blk_drew ?_ | refine blk_alloc ?_ _)); exact BK106.out) hb); have n3_ := Aside0.mk (below_step (by repeat (first | (with_reducible first | exact HB.out | apply below_alloc | apply pw_below_drewN | apply below_drew1 | refine below_set ?_ GE106.out) | exact HB.out)) hb); clear HO109; clear BK106; clear HB; have HO109 := n0_; have HO113 := n1_; have BK106 := n2_; have HB := n3_; clear n0_ n1_ n2_ n3_; clear hb ho25; obtain ⟨Ao26, co26, eo26⟩ := Kd.R_slice HO113.out; subst eo26) | (go_at_call 43; (with_reducible refine (headseg_within.calls k 0 255 _ _ y111 false _ ?side1 ?side2 A9.out).mono ?_); (case side1 => repeat (first | exact (Kd.R_reads' HO113.out).2.2 | (with_reducible refine Kd.C_alloc ?_ _) | (with_reducible refine Kd.C_drewN ?_ _) | (with_reducible refine Kd.C_drew ?_))); (case side2 => exact (Kd.R_reads' HO113.out).2.1); rintro e w' ⟨rfl, ⟨nd, rfl⟩⟩))
        go_meet
        case rel => exact ⟨_, (true), (by first | rfl | (simp; done) | (simp [*]; done)), H', ⟨by first | omega | exact Nat.le_refl _⟩, ⟨by (with_reducible repeat (first | refine blk_drewN ?_ _ | refine blk_drew ?_ | refine blk_alloc ?_ _)); exact BK106.out⟩, ⟨by repeat (first | (with_reducible first | exact HB.out | apply below_alloc | apply pw_below_drewN | apply below_drew1 | refine below_set ?_ GE106.out) | exact HB.out)⟩⟩
    · replace c8 := Bool.eq_false_iff.mpr c8
      subst c8
      have H1 : (headseg_Tile.j0 k a0 a1 a2 a3 true) = some (r1, r2, r3) := by rw [if_neg (show ¬ (false = true) by decide)] at H; exact H
      clear H
      have H := H1
      clear H1
      have H' := Aside0.mk H
      clear H
      go_wp2_with (first | ((with_reducible refine gate_dst (N := 12) rfl ?_); (try (refine gate_guard (by rfl) ?_; dsimp only)); refine Kd.R_lit (Kd.int .i64) _ 3 ?hg (N := 12) ?hd (xs := ([a0] : List Int)) (inner := [.int .i64 a0]) (ok := fun _ => True) (okp := fun _ => True) ?hr ?hp (fun _ hk => hk) trivial (Below.refl _ _) (Nat.le_refl _) (by simp) ?_; (case hd => rfl); (case hg => rfl); (case hr => first | (go_simp; done) | (go_simp; rfl)); (case hp => exact (Reps.one (show Kd.M (Kd.int .i64) _ _ _ a0 [.int .i64 a0] from rfl) (Reps.none _ _))); intro v108 w27 ho28 hb hg_ hnew_; clear hg_ hnew_; (first | rw [← Ny107.out] at ho28 | (simp only [Int.reduceToNat] at ho28; rw [← Ny107.out] at ho28)); have n0_ := Aside0.mk (Kd.R_lower ho28 (below_size (by repeat (first | (with_reducible first | exact HB.out | apply below_alloc | apply pw_below_drewN | apply below_drew1 | refine below_set ?_ GE106.out) | exact HB.out)))); have n1_ := Aside0.mk (blk_below (g := gb106) (o := .cells #[.int .i64 0, .slice none 0 0] 26 (0, 0)) (by (with_reducible repeat (first | refine blk_drewN ?_ _ | refine blk_drew ?_ | refine blk_alloc ?_ _)); exact BK106.out) hb); have n2_ := Aside0.mk (below_step (by repeat (first | (with_reducible first | exact HB.out | apply below_alloc | apply pw_below_drewN | apply below_drew1 | refine below_set ?_ GE106.out) | exact HB.out)) hb); clear BK106; clear HB; have HO109 := n0_; have BK106 := n1_; have HB := n2_; clear n0_ n1_ n2_; clear hb ho28; obtain ⟨Ao29, co29, eo29⟩ := Kd.R_slice HO109.out; subst eo29) | ((with_reducible refine gate_callee (f := 43) rfl ?_); refine goesL_ (some 13) rfl rfl Try.func43 (by kernel_rfl) rfl #[.int .i64 0, .int .i64 65535, .slice Ao29 y107.length co29] rfl (by (try simp only [List.map_toArray, List.map_cons, List.map_nil]); first | done | rfl | (simp only [List.length_drop, List.length_take]; rfl)) ?_; (with_reducible refine (headseg_within.calls k 0 65535 _ _ y107 false _ ?side1 ?side2 A7.out).mono ?_); (case side1 => repeat (first | exact (Kd.R_reads' HO109.out).2.2 | (with_reducible refine Kd.C_alloc ?_ _) | (with_reducible refine Kd.C_drewN ?_ _) | (with_reducible refine Kd.C_drew ?_))); (case side2 => exact (Kd.R_reads' HO109.out).2.1); rintro e w' ⟨rfl, ⟨nd, rfl⟩⟩; refine ⟨_, rfl, ?_⟩))
      go_meet
      case rel => exact ⟨_, (true), (by first | rfl | (simp; done) | (simp [*]; done)), H', ⟨by first | omega | exact Nat.le_refl _⟩, ⟨by (with_reducible repeat (first | refine blk_drewN ?_ _ | refine blk_drew ?_ | refine blk_alloc ?_ _)); exact BK106.out⟩, ⟨by repeat (first | (with_reducible first | exact HB.out | apply below_alloc | apply pw_below_drewN | apply below_drew1 | refine below_set ?_ GE106.out) | exact HB.out)⟩⟩
  case rest =>
    clear HC5
    try clear c1
    try clear p2
    try clear c4
    try clear c8
    try clear c10
    try clear c18
    obtain ⟨kq, x27_4, rfl, HA, HJ4, BK106, HB⟩ := hcut
    cases kq with
    | zero => exact absurd HA.out (by simp [headseg_Tile.j0])
    | succ kj4 =>
      have H := HA.out
      clear HA
      simp only [headseg_Tile.j0] at H
      by_cases c30 : x27_4 = true
      · subst c30
        have H1 : (some (0, ([] : List Int), 2)) = some (r1, r2, r3) := by rw [if_pos rfl] at H; exact H
        clear H
        have H := H1
        clear H1
        simp only [Option.some.injEq, Prod.mk.injEq] at H
        obtain ⟨rfl, rfl, rfl⟩ := H
        have hcz31_0 : wc.cell? ⟨gb106, 0, none⟩ = some (.int .i64 0) := (blk_cell BK106.out 0).trans rfl
        have hcz31_1 : wc.cell? ⟨gb106, 1, none⟩ = some (.slice none 0 0) := (blk_cell BK106.out 1).trans rfl
        have hfz31_0 := blk_frozen BK106.out 0
        have hfz31_1 := blk_frozen BK106.out 1
        go_wp2
        refine bodyPost_ret (results_ct rfl _ _ gb106 26 #[.int .i64 0, .slice none 0 0] (0, 0) _ rfl (by (with_reducible repeat (first | refine blk_drewN ?_ _ | refine blk_drew ?_ | refine blk_alloc ?_ _)); refine blk_put (cs := #[.int .i64 0, .slice none 0 0]) ?_ 1 _ rfl; (with_reducible repeat (first | refine blk_drewN ?_ _ | refine blk_drew ?_ | refine blk_alloc ?_ _)); refine blk_put (cs := #[.int .i64 0, .slice none 0 0]) ?_ 0 _ rfl; (with_reducible repeat (first | refine blk_drewN ?_ _ | refine blk_drew ?_ | refine blk_alloc ?_ _)); exact BK106.out) Try.underlying26 rfl (by kernel_rfl)) rfl ?_
        exact ⟨_, by first | rfl | (simp [errW_none, errW_some] <;> rfl) | (simp [*, errW_none, errW_some] <;> rfl), by first | exact Kd.R_nil _ _ _ _ _ | exact Kd.N_nil _ _ _ _ _ | exact Kd.V_nil _ _ _ _ _ | exact Kd.Q_nil _ _ _ _ _ | exact Kd.S_nil _ _ _ _ _, by repeat (first | (with_reducible first | exact HB.out | apply below_alloc | apply pw_below_drewN | apply below_drew1 | refine below_set ?_ GE106.out) | exact HB.out)⟩
      · replace c30 := Bool.eq_false_iff.mpr c30
        subst c30
        have H1 : ((headseg_put.f kj4 ([] : List Int) 2 a0).bind fun t119 => ((some (([(a1) % 256, (a2) % 256] : List Int) : List Int)).bind fun y122 => (if t119.length + y122.length < 140737488355328 then ((headseg_put.f kj4 (t119 ++ y122) 4 a3).bind fun t128 => (some (65456, t128, 0))) else (none)))) = some (r1, r2, r3) := by rw [if_neg (show ¬ (false = true) by decide)] at H; exact H
        clear H
        have H := H1
        clear H1
        replace H := Option.bind_eq_some_iff.mp H
        obtain ⟨t119, A320, H⟩ := H
        replace H : ((some (([(a1) % 256, (a2) % 256] : List Int) : List Int)).bind fun y122 => (if t119.length + y122.length < 140737488355328 then ((headseg_put.f kj4 (t119 ++ y122) 4 a3).bind fun t128 => (some (65456, t128, 0))) else (none))) = some (r1, r2, r3) := H
        have A32 := Aside0.mk A320
        clear A320
        obtain ⟨y122, hy122⟩ : ∃ y_ : List Int, y_ = (([(a1) % 256, (a2) % 256] : List Int)) := ⟨_, rfl⟩
        replace H : (if t119.length + y122.length < 140737488355328 then ((headseg_put.f kj4 (t119 ++ y122) 4 a3).bind fun t128 => (some (65456, t128, 0))) else (none)) = some (r1, r2, r3) := by first | (rw [hy122]; with_reducible exact H) | (have H2_ := (Option.bind_some _ _).symm.trans H; rw [hy122]; with_reducible exact H2_) | (have H2_ := (Option.bind_some _ _).symm.trans H; with_reducible exact H2_) | with_reducible exact H | (rw [hy122]; exact H) | exact H
        have Ny122 := Aside0.mk hy122
        clear hy122
        by_cases c33 : t119.length + y122.length < 140737488355328
        · rw [if_pos c33] at H
          have LMc33 := Aside0.mk c33
          clear c33
          obtain ⟨y125, hy125⟩ : ∃ y_ : List Int, y_ = (t119 ++ y122) := ⟨_, rfl⟩
          replace H : ((headseg_put.f kj4 y125 4 a3).bind fun t128 => (some (65456, t128, 0))) = some (r1, r2, r3) := by first | (rw [hy125]; with_reducible exact H) | (have H2_ := (Option.bind_some _ _).symm.trans H; rw [hy125]; with_reducible exact H2_) | (have H2_ := (Option.bind_some _ _).symm.trans H; with_reducible exact H2_) | with_reducible exact H | (rw [hy125]; exact H) | exact H
          have Ny125 := Aside0.mk hy125
          clear hy125
          replace H := Option.bind_eq_some_iff.mp H
          obtain ⟨t128, A340, H⟩ := H
          replace H : (some (65456, t128, 0)) = some (r1, r2, r3) := H
          have A34 := Aside0.mk A340
          clear A340
          simp only [Option.some.injEq, Prod.mk.injEq] at H
          obtain ⟨rfl, rfl, rfl⟩ := H
          go_wp2_with (first | ((with_reducible refine gate_callee (f := 44) rfl ?_); refine goesL_ (some 30) rfl rfl Try.func44 (by kernel_rfl) rfl #[.slice none 0 0, .int .i64 2, .int .i64 a0] rfl (by (try simp only [List.map_toArray, List.map_cons, List.map_nil]); first | done | rfl | (simp only [List.length_drop, List.length_take]; rfl)) ?_; (refine (headseg_put.calls kj4 (fun k_ => some k_ = (.slice none 0 0 : Value).ownBlock) (.slice none 0 0) ([] : List Int) 2 a0 t119 w _ ?side1 ?side2 A32.out).mono ?_); (case side1 => repeat (first | (with_reducible first | exact HB.out | apply below_alloc | apply pw_below_drewN | apply below_drew1 | refine below_set ?_ GE106.out) | exact HB.out)); (case side2 => exact Kd.R_nil _ _ _ _ _); rintro e w35 ⟨v120, rfl, ho0, hb, hkp⟩; refine ⟨_, rfl, ?_⟩; have n0_ := Aside0.mk (blk_kept (by (with_reducible repeat (first | refine blk_drewN ?_ _ | refine blk_drew ?_ | refine blk_alloc ?_ _)); exact BK106.out) hkp (fun hs_ => (fun e_ => by simp [Value.ownBlock] at e_) hs_)); have n1_ := Aside0.mk (Kd.R_mono (ok' := fun k_ => True) ho0 (fun k_ hk_ => trivial)); have n2_ := Aside0.mk (hb); clear BK106; clear HB; have BK106 := n0_; have HO121 := n1_; have HB := n2_; clear n0_ n1_ n2_; (try clear hb); (try clear hkp); (try clear ho0)) | ((with_reducible refine gate_dst (N := 36) rfl ?_); (try (refine gate_guard (by rfl) ?_; dsimp only)); refine Kd.R_lit (Kd.int .u8) _ 5 ?hg (N := 36) ?hd (xs := ([(a1) % 256, (a2) % 256] : List Int)) (inner := [.int .u8 ((a1) % 256), .int .u8 ((a2) % 256)]) (ok := fun _ => True) (okp := fun _ => True) ?hr ?hp (fun _ hk => hk) trivial (Below.refl _ _) (Nat.le_refl _) (by simp) ?_; (case hd => rfl); (case hg => rfl); (case hr => first | (go_simp; done) | (go_simp; rfl)); (case hp => exact (Reps.one (show Kd.M (Kd.int .u8) _ _ _ ((a1) % 256) [.int .u8 ((a1) % 256)] from rfl) (Reps.one (show Kd.M (Kd.int .u8) _ _ _ ((a2) % 256) [.int .u8 ((a2) % 256)] from rfl) (Reps.none _ _)))); intro v123 w36 ho37 hb hg_ hnew_; clear hg_ hnew_; (first | rw [← Ny122.out] at ho37 | (simp only [Int.reduceToNat] at ho37; rw [← Ny122.out] at ho37)); have n0_ := Aside0.mk (Kd.R_elder' (by (with_reducible repeat (first | apply Kd.R_alloc | apply Kd.R_drewN | apply Kd.R_drew)); exact HO121.out) (Kd.R_base ho37) hb); have n1_ := Aside0.mk (Kd.R_lower (Kd.R_new' ho37 (Kd.R_lt (by (with_reducible repeat (first | apply Kd.R_alloc | apply Kd.R_drewN | apply Kd.R_drew)); exact HO121.out))) (below_size (by repeat (first | (with_reducible first | exact HB.out | apply below_alloc | apply pw_below_drewN | apply below_drew1 | refine below_set ?_ GE106.out) | exact HB.out)))); have n2_ := Aside0.mk (blk_below (g := gb106) (o := .cells #[.int .i64 0, .slice none 0 0] 26 (0, 0)) (by (with_reducible repeat (first | refine blk_drewN ?_ _ | refine blk_drew ?_ | refine blk_alloc ?_ _)); exact BK106.out) hb); have n3_ := Aside0.mk (below_step (by repeat (first | (with_reducible first | exact HB.out | apply below_alloc | apply pw_below_drewN | apply below_drew1 | refine below_set ?_ GE106.out) | exact HB.out)) hb); clear HO121; clear BK106; clear HB; have HO121 := n0_; have HO124 := n1_; have BK106 := n2_; have HB := n3_; clear n0_ n1_ n2_ n3_; clear hb ho37; obtain ⟨Ao39, co39, eo39⟩ := Kd.R_slice HO124.out; subst eo39) | ((with_reducible refine gate_builtin (b := .append) (xs := #[.tmp 31, .tmp 36]) rfl ?_); (try (refine gate_guard (by rfl) ?_; dsimp only)); at_builtin; refine Kd.R_append_rows (Kd.int .u8) (w0 := w) w.heap.size rfl (.tmp 31) (.tmp 36) 24 5 (.int .u8 0) 1 rfl Try.underlying24 info5 rfl (by decide) (by omega) v120 t119 y122 _ _ _ (fun k_ => some k_ ≠ (.slice Ao39 y122.length co39 : Value).ownBlock) (fun _ => False) rfl rfl ?aO ?aR (fun _ _ h => h) (fun _ h => h.elim) ?aF ?aB ?aS ?aL ?_; (case aR => repeat (first | exact (Kd.R_reads' HO124.out).2.2 | (with_reducible refine Kd.C_alloc ?_ _) | (with_reducible refine Kd.C_drewN ?_ _) | (with_reducible refine Kd.C_drew ?_))); (case aB => exact (by repeat (first | (with_reducible first | exact HB.out | apply below_alloc | apply pw_below_drewN | apply below_drew1 | refine below_set ?_ GE106.out) | exact HB.out))); (case aF => exact (fun k_ hk => Kd.fresh' (Kd.R_lt (by (with_reducible repeat (first | apply Kd.R_alloc | apply Kd.R_drewN | apply Kd.R_drew)); exact HO124.out)) k_ hk)); (case aO => exact (by (with_reducible repeat (first | apply Kd.R_alloc | apply Kd.R_drewN | apply Kd.R_drew)); exact Kd.R_mono HO121.out (fun _ hk => hk.2))); (case aS => exact (below_size (by repeat (first | (with_reducible first | exact HB.out | apply below_alloc | apply pw_below_drewN | apply below_drew1 | refine below_set ?_ GE106.out) | exact HB.out)))); (case aL => have := LMc33.out; omega); intro v126 w38 ho hb hg hat; rw [← Ny125.out] at ho; have n0_ := Aside0.mk (blk_grown (g := gb106) (o := .cells #[.int .i64 0, .slice none 0 0] 26 (0, 0)) (by (with_reducible repeat (first | refine blk_drewN ?_ _ | refine blk_drew ?_ | refine blk_alloc ?_ _)); exact BK106.out) hg (Kd.R_ne HO121.out BK106.out (by decide))); have n1_ := Aside0.mk (Kd.R_after (ok := (fun _ => True)) (by (with_reducible repeat (first | apply Kd.R_alloc | apply Kd.R_drewN | apply Kd.R_drew)); exact HO124.out) hg hat); have n2_ := Aside0.mk (hb); have n3_ := Aside0.mk (ho); clear BK106; clear HO124; clear HB; clear HO121; have BK106 := n0_; have HO124 := n1_; have HB := n2_; have HO127 := n3_; clear n0_ n1_ n2_ n3_; clear ho hb hg hat; obtain ⟨Ao40, co40, eo40⟩ := Kd.R_slice HO127.out; subst eo40) | ((with_reducible refine gate_callee (f := 44) rfl ?_); refine goesL_ (some 40) rfl rfl Try.func44 (by kernel_rfl) rfl #[.slice Ao40 y125.length co40, .int .i64 4, .int .i64 a3] rfl (by (try simp only [List.map_toArray, List.map_cons, List.map_nil]); first | done | rfl | (simp only [List.length_drop, List.length_take]; rfl)) ?_; (with_reducible refine (headseg_put.calls kj4 (fun k_ => some k_ = (.slice Ao40 y125.length co40 : Value).ownBlock) (.slice Ao40 y125.length co40) y125 4 a3 t128 w _ ?side1 ?side2 A34.out).mono ?_); (case side1 => repeat (first | (with_reducible first | exact HB.out | apply below_alloc | apply pw_below_drewN | apply below_drew1 | refine below_set ?_ GE106.out) | exact HB.out)); (case side2 => exact Kd.R_tight rfl HO127.out); rintro e w41 ⟨v129, rfl, ho0, hb, hkp⟩; refine ⟨_, rfl, ?_⟩; have n0_ := Aside0.mk (blk_kept (by (with_reducible repeat (first | refine blk_drewN ?_ _ | refine blk_drew ?_ | refine blk_alloc ?_ _)); exact BK106.out) hkp (fun hs_ => (fun e_ => (Kd.R_ne HO127.out BK106.out (by decide)) e_) hs_)); have n1_ := Aside0.mk (Kd.R_mono (ok' := fun k_ => some k_ ≠ (v129 : Value).ownBlock) (Kd.R_keptB (HO124.out) hkp (fun k_ hk_ hs_ => (hk_.2) hs_)) (fun k_ hk_ => fun e_ => Or.elim (ho0.1 k_ e_.symm) (fun hs_ => hk_.2.1 hs_) (fun hn_ => Nat.not_le.2 hk_.2.2 hn_))); have n2_ := Aside0.mk (Kd.R_mono (ok' := fun k_ => some k_ ≠ (.slice Ao39 y122.length co39 : Value).ownBlock) ho0 (fun k_ hk_ => Or.elim hk_ (fun hs_ => fun e_ => (((HO124.out).1 k_ e_.symm).2) hs_) (fun hn_ => (Kd.fresh' (Kd.R_lt (by (with_reducible repeat (first | apply Kd.R_alloc | apply Kd.R_drewN | apply Kd.R_drew)); exact HO124.out)) k_ hn_)))); have n3_ := Aside0.mk (hb); clear BK106; clear HO124; clear HB; clear HO127; have BK106 := n0_; have HO124 := n1_; have HO130 := n2_; have HB := n3_; clear n0_ n1_ n2_ n3_; (try clear hb); (try clear hkp); (try clear ho0); obtain ⟨Ao42, co42, eo42⟩ := Kd.R_slice HO130.out; subst eo42; have hcz43_0 : w41.cell? ⟨gb106, 0, none⟩ = some (.int .i64 0) := (blk_cell BK106.out 0).trans rfl; have hcz43_1 : w41.cell? ⟨gb106, 1, none⟩ = some (.slice none 0 0) := (blk_cell BK106.out 1).trans rfl; have hfz43_0 := blk_frozen BK106.out 0; have hfz43_1 := blk_frozen BK106.out 1))
          refine bodyPost_ret (results_ct rfl _ _ gb106 26 #[.int .i64 65456, .slice Ao42 t128.length co42] (0, 0) _ rfl (by (with_reducible repeat (first | refine blk_drewN ?_ _ | refine blk_drew ?_ | refine blk_alloc ?_ _)); refine blk_put (cs := #[.int .i64 65456, .slice none 0 0]) ?_ 1 _ rfl; (with_reducible repeat (first | refine blk_drewN ?_ _ | refine blk_drew ?_ | refine blk_alloc ?_ _)); refine blk_put (cs := #[.int .i64 0, .slice none 0 0]) ?_ 0 _ rfl; (with_reducible repeat (first | refine blk_drewN ?_ _ | refine blk_drew ?_ | refine blk_alloc ?_ _)); exact BK106.out) Try.underlying26 rfl (by kernel_rfl)) rfl ?_
          exact ⟨_, by first | rfl | (simp [errW_none, errW_some] <;> rfl) | (simp [*, errW_none, errW_some] <;> rfl), by (with_reducible repeat (first | apply Kd.R_alloc | apply Kd.R_drewN | apply Kd.R_drew)); exact Kd.R_mono (Kd.R_far (p := ⟨gb106, 1, none⟩) (Kd.R_far (p := ⟨gb106, 0, none⟩) (Kd.R_types HO130.out BK106.out (by decide)) (fun _ hk => hk.2) (.int .i64 65456)) (fun _ hk => hk.2) (.slice Ao42 t128.length co42)) (fun _ hk => trivial), by repeat (first | (with_reducible first | exact HB.out | apply below_alloc | apply pw_below_drewN | apply below_drew1 | refine below_set ?_ GE106.out) | exact HB.out)⟩
        · rw [if_neg c33] at H
          exact absurd H (by simp)

end Go.Proofs.Ytihfopblmjgfaaa.Q
