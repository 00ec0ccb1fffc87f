/- An array's cells, opened like a struct's: an addition to the opening of arguments by type. -/
import Derived.Test.YthemchggmlpdhaaOpen
import Derived.OpenShut
namespace Go.Proofs.Ythemchggmlpdhaa.Open
open Go.RowKit Go.Proofs.YthemchggmlpdhaaW.PrintWords

def fld (t : TypeId) (o : Nat) : Field := { name := "", type := t, offset := o, byteOffset := 0, embedded := false, tag := "", pkgPath := "" }
theorem opens_array {α β : Type} {P : Program} {t e : TypeId} {n sz : Nat} {d : Kd α} {ok : α → Prop} (fs : List Field) (ht : P.underlying t = some (.array n e)) (hs : P.cellsOf e = sz) (hc : P.cellsOf t = d.sz) (hfs : fs = (List.range n).map fun i => fld e (i * sz)) (h2 : Parts P fs 0 (P.cellsOf t) d ok) (f : β → α) (g : α → β) (hfg : ∀ v, f (g v) = v) :
    Opens P t (Kd.iso d f) (fun x => ok (f x)) :=
  ⟨hc, by
    intro H enc w base spare held fuel cs x h hl
    obtain ⟨xs, m, _, rfl, hcl, hxl, hx⟩ := DataW.trod_array ht h
    have hget : ∀ (i : Nat) (fd : Field), fs[i]? = some fd → i < n ∧ fd = fld e (i * sz) := by
      intro i fd hi
      rw [hfs, List.getElem?_map] at hi
      rcases Nat.lt_or_ge i n with hlt | hge
      · rw [List.getElem?_range hlt] at hi
        exact ⟨hlt, (Option.some.inj hi).symm⟩
      · rw [List.getElem?_eq_none (by simpa using hge)] at hi
        cases hi
    obtain ⟨v, hv, hk⟩ := h2 (cs := cs) xs hcl (by rw [hfs]; simpa using hxl) (fun i fd hi => by
      obtain ⟨hlt, rfl⟩ := hget i fd hi
      have := hx i hlt
      rw [hs] at this
      show DataW.trod enc P w base spare held m e ((cs.drop (i * sz)).take (P.cellsOf e)) = xs[i]?
      rw [hs]
      exact this) (fun i fd y hi hy k hk => hl k (by
      obtain ⟨hlt, rfl⟩ := hget i fd hi
      simp only [DataW.weights, ht]
      exact weightsAll_mem (j := i) (by rw [List.getElem?_map, hy]; rfl) k hk))
    refine ⟨g v, ?_, ?_⟩
    · show d.K w (f (g v)) cs
      rw [hfg]
      simpa using hv
    · show ok (f (g v))
      rw [hfg]
      exact hk⟩
theorem okWide_array {P : Program} {w : World} {r : Reach} {base : Nat} {t e : TypeId} {n : Nat} {v : Value} (ht : P.underlying t = some (.array n e)) (h : Value.okWide P w r base t v) : ∃ cs, v = .agg cs ∧ cs.size = P.cellsOf t := by
  simp only [Value.okWide, ht] at h
  obtain ⟨cs, h1, h2, _⟩ := h
  exact ⟨cs, h1, h2⟩
end Go.Proofs.Ythemchggmlpdhaa.Open
