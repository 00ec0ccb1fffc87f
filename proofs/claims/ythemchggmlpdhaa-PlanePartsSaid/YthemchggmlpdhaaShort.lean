/- Facts about a row of cells, all at once: by a program of this session (wip/tools/mini.py). -/
import Derived.Test.YthemchggmlpdhaaWWords
namespace Go.Proofs.YthemchggmlpdhaaW.PrintWords
open Go.RowKit Go.Proofs.YthemchggmlpdhaaW
def MK (l : List Nat) : Array Bool := (l.zipIdx.flatMap fun x => List.replicate x.1 (x.2 % 2 == 0)).toArray
theorem PUT : (∀ (t : Array Value) (d) (n : Nat) (v : Value), ({ tmps := t, defers := d } : Act).put (some n) v = { tmps := t.setIfInBounds n v, defers := d }) ∧ (∀ (a : Act) (v : Value), a.put none v = a) ∧ (∀ (l : List Value) (i : Nat) (v : Value), l.toArray.setIfInBounds i v = (l.set i v).toArray) ∧ (∀ (l : List Value) (x v : Value), (x :: l).set 0 v = v :: l) ∧ (∀ (l : List Value) (x v : Value) (n : Nat), (x :: l).set (n + 1) v = x :: l.set n v) := ⟨fun _ _ _ _ => rfl, fun _ _ => rfl, fun _ _ _ => by simp, fun _ _ _ => rfl, fun _ _ _ _ => rfl⟩
theorem PUTW : (∀ n : Int, IntKind.i64.wrap n = wrap64 n) ∧ (∀ n : Int, IntKind.i32.wrap n = wrap32 n) ∧ (∀ (t : Array Value) (d) (n : Nat) (v : Value), ({ tmps := t, defers := d } : Act).put (some n) v = { tmps := t.setIfInBounds n v, defers := d }) ∧ (∀ (a : Act) (v : Value), a.put none v = a) ∧ (∀ (l : List Value) (i : Nat) (v : Value), l.toArray.setIfInBounds i v = (l.set i v).toArray) ∧ (∀ (l : List Value) (x v : Value), (x :: l).set 0 v = v :: l) ∧ (∀ (l : List Value) (x v : Value) (n : Nat), (x :: l).set (n + 1) v = x :: l.set n v) := ⟨PrintLast.i64_w, PrintLast.i32_w, PUT⟩
end Go.Proofs.YthemchggmlpdhaaW.PrintWords
