/- MarkerCanonical: if Read returns a segment of at most 3000 bytes, Append of it to the bytes before it returns the bytes up to the offset behind it; if not, it returns nothing; the examples of the chapter hold. No condition. -/
import Derived.Test.YtbkgcppiipknpaaPureRead
import Derived.Test.YtbkgcppiipknpaaQ25
namespace Go.Proofs.Ytbkgcppiipknpaa.Pure
open Go.RowKit Go.Proofs.Ytbkgcppiipknpaa.Q Go.Proofs.YtbkgcppiipknpaaW.PrintWords
set_option linter.unusedVariables false
theorem take_split (l : List Int) (a b : Nat) (h : a ≤ b) : l.take b = l.take a ++ (l.take b).drop a := by
  have h1 := List.take_append_drop a (l.take b)
  rw [List.take_take, Nat.min_eq_left h] at h1
  exact h1.symm
theorem two_of (x y : Int) (hx : 0 ≤ x ∧ x ≤ 255) (hy : 0 ≤ y ∧ y ≤ 255) : two (x * 256 + y) = [x, y] := by
  unfold two
  rw [show (x * 256 + y) / 256 % 256 = x by omega, show (x * 256 + y) % 256 = y by omega]
theorem canon (l : List Int) (hb : Bytes l) (hl : l.length ≤ 3000) (a : Int) (h : (RD l a).2.2.2 = 0) :
    App (l.take a.toNat) (RD l a).1 (RD l a).2.1 = (l.take (RD l a).2.2.1.toNat, 0) ∧ (RD l a).2.1.length ≤ 100000 := by
  unfold RD at h ⊢
  by_cases h1 : (RU l a 2).2 = 0
  · rw [if_pos h1] at h ⊢
    obtain ⟨a0, a1, x, y, hm, hx, hy, hv⟩ := ru_two l hb a h1
    have s1 := take_split l a.toNat (a + 2).toNat (by omega)
    rw [hm] at s1
    by_cases h2 : Kn (RU l a 2).1
    · rw [if_pos h2] at h ⊢
      by_cases h3 : Ba (RU l a 2).1
      · rw [if_pos h3]
        refine ⟨?_, by simp⟩
        show App (l.take a.toNat) (RU l a 2).1 [] = (l.take (a + 2).toNat, 0)
        unfold App
        rw [if_neg (fun h_ => h_ h2), if_neg (by simp), if_neg (by simp), if_pos h3, hv, two_of x y hx hy, s1]
      · rw [if_neg h3] at h ⊢
        by_cases h4 : (RU l (a + 2) 2).2 = 0
        · rw [if_pos h4] at h ⊢
          obtain ⟨b0, b1, x', y', hm', hx', hy', hv'⟩ := ru_two l hb (a + 2) h4
          by_cases h5 : (RU l (a + 2) 2).1 < 2
          · rw [if_pos h5] at h; simp at h
          · rw [if_neg h5] at h ⊢
            by_cases h6 : (l.length : Int) < a + 2 + (RU l (a + 2) 2).1
            · rw [if_pos h6] at h; simp at h
            · rw [if_neg h6]
              have hpl : ((l.take (a + 2 + (RU l (a + 2) 2).1).toNat).drop (a + 4).toNat).length = ((RU l (a + 2) 2).1 - 2).toNat := by
                rw [List.length_drop, List.length_take]; omega
              refine ⟨?_, by show (List.drop _ _).length ≤ _; rw [hpl]; omega⟩
              show App (l.take a.toNat) (RU l a 2).1 ((l.take (a + 2 + (RU l (a + 2) 2).1).toNat).drop (a + 4).toNat) = (l.take (a + 2 + (RU l (a + 2) 2).1).toNat, 0)
              have s2 := take_split l (a + 2).toNat (a + 2 + 2).toNat (by omega)
              rw [hm'] at s2
              have s3 := take_split l (a + 4).toNat (a + 2 + (RU l (a + 2) 2).1).toNat (by omega)
              rw [show (a + 2 + 2).toNat = (a + 4).toNat by omega] at s2
              have e1 : two (((l.take (a + 2 + (RU l (a + 2) 2).1).toNat).drop (a + 4).toNat).length + 2 : Int) = [x', y'] := by
                rw [hpl, show ((((RU l (a + 2) 2).1 - 2).toNat : Int) + 2) = x' * 256 + y' by omega, two_of x' y' hx' hy']
              generalize List.drop (a + 4).toNat (List.take (a + 2 + (RU l (a + 2) 2).1).toNat l) = D at hpl s3 e1 ⊢
              unfold App
              rw [if_neg (fun h_ => h_ h2), if_neg (fun h_ => h3 h_.1), if_neg (by rw [hpl]; omega), if_neg h3, hv, two_of x y hx hy, e1]
              congr 1
              rw [s3, s2, s1]
        · rw [if_neg h4] at h
          exact absurd h h4
    · rw [if_neg h2] at h; simp at h
  · rw [if_neg h1] at h
    exact absurd h h1
theorem rd_err (l : List Int) (a : Int) (h : ¬ (RD l a).2.2.2 = 0) : (RD l a).1 = 0 ∧ (RD l a).2.1 = [] ∧ (RD l a).2.2.1 = 0 := by
  unfold RD at h ⊢
  by_cases h1 : (RU l a 2).2 = 0
  · rw [if_pos h1] at h ⊢
    by_cases h2 : Kn (RU l a 2).1
    · rw [if_pos h2] at h ⊢
      by_cases h3 : Ba (RU l a 2).1
      · rw [if_pos h3] at h; exact absurd rfl h
      · rw [if_neg h3] at h ⊢
        by_cases h4 : (RU l (a + 2) 2).2 = 0
        · rw [if_pos h4] at h ⊢
          by_cases h5 : (RU l (a + 2) 2).1 < 2
          · rw [if_pos h5]; exact ⟨rfl, rfl, rfl⟩
          · rw [if_neg h5] at h ⊢
            by_cases h6 : (l.length : Int) < a + 2 + (RU l (a + 2) 2).1
            · rw [if_pos h6]; exact ⟨rfl, rfl, rfl⟩
            · rw [if_neg h6] at h; exact absurd rfl h
        · rw [if_neg h4]; exact ⟨rfl, rfl, rfl⟩
    · rw [if_neg h2]; exact ⟨rfl, rfl, rfl⟩
  · rw [if_neg h1]; exact ⟨rfl, rfl, rfl⟩
theorem MarkerCanonical (l0 : List (Int)) (a1 : Int) (y0 : l0.length * 1 ≤ 140737488351232) (w0 : ∀ x ∈ l0, (Lit.int .u8 x).wf = true) (w1 : (Lit.int .i64 a1).wf = true) : ∃ k, waveletlaw28_MarkerCanonical.f k l0 a1 = some true := by
  have hb : Bytes l0 := fun x hx => wf_u8 (w0 x hx)
  have ha := wf_bd w1
  clear w0 w1
  obtain ⟨K, hK⟩ := example_holds
  by_cases hl : (l0.length : Int) > 3000
  · exact ⟨K, by rw [waveletlaw28_MarkerCanonical.f, if_pos hl, hK]; rfl⟩
  · have hex : waveletlaw28_exampleHolds.f (K + 6) = some true := at_rounds waveletlaw28_exampleHolds.mono (by omega) hK
    refine ⟨K + 7, ?_⟩
    have hex7 : waveletlaw28_exampleHolds.f (K + 7) = some true := at_rounds waveletlaw28_exampleHolds.mono (by omega) hK
    rw [waveletlaw28_MarkerCanonical.f, if_neg hl, show K + 7 = (K + 1) + 6 by omega, read_eq l0 hb a1 (by omega) ha.2, Option.bind_some]
    by_cases h : (RD l0 a1).2.2.2 = 0
    · obtain ⟨r1, r2, r3⟩ := rd_ok l0 hb a1 h
      obtain ⟨c1, c2⟩ := canon l0 hb (by omega) a1 h
      rw [if_pos h, if_neg (by omega), if_neg (by omega), decide_eq_false (by omega), show K + 1 + 6 = (K + 6) + 1 by omega, waveletlaw28_MarkerCanonical.j0, if_neg (by decide), if_pos r1, if_pos (by omega), show K + 6 = (K + 5) + 1 by omega,
        append_eq _ _ _ (by rw [List.length_take]; omega) c2, Option.bind_some, c1, if_pos rfl, if_pos (by omega), if_pos r3, if_pos rfl, show K + 5 + 1 = K + 6 by omega, hex]
      rfl
    · obtain ⟨e1, e2, e3⟩ := rd_err l0 a1 h
      rw [if_neg h, if_pos e1, if_pos (by rw [e2]; rfl), if_pos e3, show K + 1 + 6 = K + 7 by omega, hex7]
      rfl
end Go.Proofs.Ytbkgcppiipknpaa.Pure
