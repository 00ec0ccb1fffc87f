/- What Bound computes: the smallest rectangle that contains those of a list. -/
import Derived.Test.YtibaclnknialbaaPureLib
namespace Go.Proofs.Ytibaclnknialbaa.Pure
open Go.RowKit Go.Proofs.Ytibaclnknialbaa.Q Go.Proofs.YtibaclnknialbaaW.PrintWords
set_option linter.unusedVariables false

theorem rd_at (l : List S26) (i : Nat) (h : i < l.length) : rd_T26 l (i : Int) = l[i] := by
  unfold rd_T26
  rw [Int.toNat_natCast, List.getD_eq_getElem?_getD, List.getElem?_eq_getElem h]
  rfl
theorem step_nat (i : Nat) (l : List S26) (hl : l.length * 32 ≤ 140737488351232) (h : i < l.length) : wrap64 ((i : Int) + 1) = ((i + 1 : Nat) : Int) := by
  unfold wrap64
  omega

abbrev R4 := Int × Int × Int × Int
def bnd : Bool → R4 → List S26 → R4
  | _, o, [] => o
  | f, o, r :: rs => if r.f2 ≤ r.f0 ∨ r.f3 ≤ r.f1 then bnd f o rs else
      match f with
      | true => bnd true (mn o.1 r.f0, mn o.2.1 r.f1, mx o.2.2.1 r.f2, mx o.2.2.2 r.f3) rs
      | false => bnd true (r.f0, r.f1, r.f2, r.f3) rs
theorem bnd_skip (f : Bool) (o : R4) (r : S26) (rs : List S26) (h : r.f2 ≤ r.f0 ∨ r.f3 ≤ r.f1) : bnd f o (r :: rs) = bnd f o rs := by
  cases f <;> simp only [bnd] <;> rw [if_pos h]
theorem bnd_first (o : R4) (r : S26) (rs : List S26) (h : ¬ (r.f2 ≤ r.f0 ∨ r.f3 ≤ r.f1)) : bnd false o (r :: rs) = bnd true (r.f0, r.f1, r.f2, r.f3) rs := by
  simp only [bnd]; rw [if_neg h]
theorem bnd_more (o : R4) (r : S26) (rs : List S26) (h : ¬ (r.f2 ≤ r.f0 ∨ r.f3 ≤ r.f1)) : bnd true o (r :: rs) = bnd true (mn o.1 r.f0, mn o.2.1 r.f1, mx o.2.2.1 r.f2, mx o.2.2.2 r.f3) rs := by
  simp only [bnd]; rw [if_neg h]

theorem bound_eq (l : List S26) (hl : l.length * 32 ≤ 140737488351232) (d : Nat) : ∀ (k i : Nat) (a b c e : Int) (f : Bool), i + d = l.length → d < k →
    rect_Bound.l0 k f l (l.length : Int) (i : Int) a b c e = some (bnd f (a, b, c, e) (l.drop i)) := by
  induction d with
  | zero =>
    intro k i a b c e f hi hk
    obtain ⟨k, rfl⟩ : ∃ m, k = m + 1 := ⟨k - 1, by omega⟩
    simp only [rect_Bound.l0]
    rw [if_neg (by omega), List.drop_eq_nil_of_le (by omega)]
    cases f <;> rfl
  | succ d ih =>
    intro k i a b c e f hi hk
    obtain ⟨k, rfl⟩ : ∃ m, k = m + 1 := ⟨k - 1, by omega⟩
    simp only [rect_Bound.l0]
    have hlt : i < l.length := by omega
    rw [if_pos (by omega), if_pos (by omega), if_pos (by omega), rd_at l i hlt, empty_eq, step_nat i l hl hlt, List.drop_eq_getElem_cons hlt]
    simp only [Option.bind_some, decide_eq_true_eq]
    by_cases h : l[i].f2 ≤ l[i].f0 ∨ l[i].f3 ≤ l[i].f1
    · rw [if_pos h, bnd_skip f _ _ _ h]
      exact ih k (i + 1) a b c e f (by omega) (by omega)
    · rw [if_neg h]
      cases f with
      | false =>
        rw [if_neg (by simp), bnd_first _ _ _ h]
        exact ih k (i + 1) _ _ _ _ true (by omega) (by omega)
      | true =>
        rw [if_pos rfl, bnd_more _ _ _ h]
        exact ih k (i + 1) _ _ _ _ true (by omega) (by omega)
end Go.Proofs.Ytibaclnknialbaa.Pure
