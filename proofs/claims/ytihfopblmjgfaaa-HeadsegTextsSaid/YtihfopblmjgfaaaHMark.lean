/- A row of bytes that a call has made, marked or not ('[]byte(s)' of a string): what the walk needs of it, in the shapes of the rows that are not marked. -/
import Derived.Test.YtihfopblmjgfaaaWWords
namespace Go.Proofs.Ytihfopblmjgfaaa.Q
open Go.RowKit Go.Proofs.YtihfopblmjgfaaaW.PrintWords
set_option linter.unusedVariables false

def MR (w : World) (base : Nat) (ok : Nat → Prop) (v : Value) (xs : List Int) : Prop :=
  (∀ k, v.ownBlock = some k → ok k) ∧ ((v = .slice none 0 0 ∧ xs = []) ∨ ∃ (g cap : Nat) (cur : Array Value) (fr : Nat × Nat), v = .slice (some ⟨g, 0, none⟩) xs.length cap ∧ base ≤ g ∧ w.heap[g]? = some (.cells cur 5 fr) ∧ xs.length ≤ cap ∧ xs.length ≤ 9223372036854775807 ∧ ∀ (j : Nat) (p : Int), xs[j]? = some p → cur[j]? = some (Value.int .u8 p))
section
variable {w w1 W : World} {base : Nat} {ok ok' : Nat → Prop} {u v : Value} {xs : List Int}
theorem MR_mono (h : MR w base ok v xs) (hok : ∀ k, ok k → ok' k) : MR w base ok' v xs := ⟨fun k hk => hok k (h.1 k hk), h.2⟩
theorem MR_lower {base' : Nat} (h : MR w base ok v xs) (hb : base' ≤ base) : MR w base' ok v xs :=
  ⟨h.1, h.2.imp id fun ⟨g, cap, cur, fr, h1, h2, h3⟩ => ⟨g, cap, cur, fr, h1, Nat.le_trans hb h2, h3⟩⟩
theorem MR_lt (h : MR w base ok v xs) : ∀ k, v.ownBlock = some k → k < w.heap.size := by
  rcases h.2 with ⟨rfl, _⟩ | ⟨g, cap, cur, fr, rfl, _, hh, _⟩
  · intro k hk
    simp [Value.ownBlock] at hk
  · intro k hk
    have : g = k := by simpa [Value.ownBlock] using hk
    exact this ▸ blk_lt hh
theorem MR_base (h : MR w base ok v xs) : ∀ k, v.ownBlock = some k → base ≤ k := by
  rcases h.2 with ⟨rfl, _⟩ | ⟨g, cap, cur, fr, rfl, hb, _⟩
  · intro k hk
    simp [Value.ownBlock] at hk
  · intro k hk
    have : g = k := by simpa [Value.ownBlock] using hk
    exact this ▸ hb
theorem MR_step (h : MR w base ok v xs) (hs : ∀ k, ok k → k < w.heap.size → w1.heap[k]? = w.heap[k]?) : MR w1 base ok v xs := by
  obtain ⟨h0, h2⟩ := h
  refine ⟨h0, h2.imp id ?_⟩
  rintro ⟨g, cap, cur, fr, rfl, hb, hh, h3⟩
  exact ⟨g, cap, cur, fr, rfl, hb, (hs g (h0 g rfl) (blk_lt hh)).trans hh, h3⟩
theorem MR_below (h : MR w base ok v xs) (hb : Below w.heap.size w w1) : MR w1 base ok v xs := MR_step h (fun k _ hk => hb.block k hk)
theorem MR_alloc (h : MR w base ok v xs) (o : Obj) : MR (w.alloc o) base ok v xs := MR_below h (below_alloc (Below.refl _ _) o)
theorem MR_drew (h : MR w base ok v xs) : MR w.drew base ok v xs := MR_below h (below_drew (Below.refl _ _))
theorem MR_drewN (h : MR w base ok v xs) (m : Nat) : MR (w.drewN m) base ok v xs := MR_below h (pw_below_drewN (Below.refl _ _) m)
theorem MR_far (h : MR w base ok v xs) {p : Addr} (hok : ∀ k, ok k → k ≠ p.block) (u : Value) : MR (w.setCell p u) base ok v xs := MR_step h (fun k ho _ => Below.heap_setCell w p u k (hok k ho))
theorem MR_types (h : MR w base ok v xs) {g t : Nat} {cells : Array Value} (hb : w.heap[g]? = some (.cells cells t (0, 0))) (ht : ∀ q, q ∈ 5 :: ([] : List Nat) → q ≠ t) : MR w base (fun k => ok k ∧ k ≠ g) v xs := by
  obtain ⟨h0, h2⟩ := h
  refine ⟨fun k hk => ⟨h0 k hk, ?_⟩, h2⟩
  rintro rfl
  rcases h2 with ⟨rfl, _⟩ | ⟨g, cap, cur, fr, rfl, _, hh, _⟩
  · simp [Value.ownBlock] at hk
  · have : g = k := by simpa [Value.ownBlock] using hk
    subst this
    rw [hh] at hb
    injection hb with hb
    injection hb with _ hq
    exact ht 5 (by simp) hq
theorem MR_elder' (hu : MR W base ok u xs) (hbase : ∀ k, v.ownBlock = some k → W.heap.size ≤ k) (hb : Below W.heap.size W w1) : MR w1 base (fun k => ok k ∧ some k ≠ v.ownBlock) u xs := by
  have h1 := MR_below hu hb
  exact ⟨fun k hk => ⟨h1.1 k hk, fun he => by have := hbase k he.symm; have := MR_lt hu k hk; omega⟩, h1.2⟩
theorem MR_new' (h : MR w1 W.heap.size ok v xs) (hlt : ∀ k, u.ownBlock = some k → k < W.heap.size) : MR w1 W.heap.size (fun k => ok k ∧ some k ≠ u.ownBlock) v xs :=
  ⟨fun k hk => ⟨h.1 k hk, fun he => by have := hlt k he.symm; have := MR_base h k hk; omega⟩, h.2⟩
theorem MR_reads (h : MR w base ok v xs) : ∃ A c, v = .slice A xs.length c ∧ xs.length ≤ c ∧ (Kd.int .u8).C w A xs.length xs := by
  rcases h.2 with ⟨rfl, rfl⟩ | ⟨g, cap, cur, fr, rfl, _, hh, hl, hm, hc⟩
  · exact ⟨none, 0, rfl, Nat.le_refl _, rfl, by simp, fun h0 => absurd h0 (by simp)⟩
  · refine ⟨_, _, rfl, hl, rfl, hm, fun _ => ⟨_, rfl, fun j p hj => ⟨[.int .u8 p], rfl, rfl, fun i u hu => ?_⟩⟩⟩
    obtain ⟨hlt, hp⟩ := List.getElem?_eq_some_iff.1 hu
    have hi : i = 0 := by simpa using hlt
    subst hi
    have hu' : Value.int .u8 p = u := by simpa using hp
    subst hu'
    show w.cell? ((⟨g, 0, none⟩ : Addr).add (j * 1 + 0)) = some (.int .u8 p)
    rw [add_plain]
    have := hc j p hj
    simp only [World.cell?, hh, Nat.mul_one, Nat.add_zero]
    simpa using this
theorem MR_slice (h : MR w base ok v xs) : ∃ A c, v = .slice A xs.length c := by
  obtain ⟨A, c, he, _⟩ := MR_reads h
  exact ⟨A, c, he⟩
theorem MR_reads' {A : Option Addr} {n c : Nat} (h : MR w base ok (.slice A n c) xs) : n = xs.length ∧ n ≤ c ∧ (Kd.int .u8).C w A xs.length xs := by
  obtain ⟨A', c', he, hl, hr⟩ := MR_reads h
  injection he with h1 h2 h3
  subst h1
  exact ⟨h2, by omega, hr⟩
/-- What isn't marked. -/
theorem MR_of (h : Kd.R (Kd.int .u8) 5 w base ok v xs) : MR w base ok v xs := by
  obtain ⟨h0, inner, ⟨hlen, ho⟩, hr⟩ := h
  refine ⟨h0, ?_⟩
  rcases ho with ⟨rfl, hn⟩ | ⟨g, cap, cur, rfl, hb, hh, hl, hm, hs, ht⟩
  · exact .inl ⟨rfl, List.eq_nil_of_length_eq_zero hn⟩
  · refine .inr ⟨g, cap, cur, (0, 0), rfl, hb, hh, hl, by simp only [maxLen] at hm; omega, fun j p hj => ?_⟩
    obtain ⟨hjl, _⟩ := List.getElem?_eq_some_iff.1 hj
    have h1 : (inner.drop (j * 1)).take 1 = [Value.int .u8 p] := hr.2 j p hj
    have h2 : inner[j]? = some (Value.int .u8 p) := by
      have h3 := congrArg (fun l => l[0]?) h1
      simpa [List.getElem?_take] using h3
    rw [← ht, List.getElem?_take] at h2
    have h4 : j < xs.length * (Kd.int .u8).sz := by show j < xs.length * 1; omega
    rw [if_pos h4] at h2
    simpa using h2
/-- '[]byte(s)': the new row. -/
theorem MR_bytes (w : World) (s : ByteArray) (hl : s.size ≤ 9223372036854775807) : MR (Lib.bytesWorld w 5 s) w.heap.size (fun _ => True) (.slice (some ⟨w.heap.size, 0, none⟩) s.size (grownCap w s.size 0 5)) (s.data.toList.map fun b => (b.toNat : Int)) := by
  refine ⟨fun _ _ => trivial, .inr ⟨w.heap.size, grownCap w s.size 0 5, _, _, by simp, Nat.le_refl _, Lib.bytesWorld_at_new w 5 s, by simpa using grownCap_ge w s.size 0 5, by simpa using hl, fun j p hj => ?_⟩⟩
  rw [List.getElem?_map] at hj
  obtain ⟨b, hb, rfl⟩ := Option.map_eq_some_iff.1 hj
  obtain ⟨hlt, he⟩ := List.getElem?_eq_some_iff.1 hb
  have h2 : j < s.data.size := by simpa using hlt
  unfold Lib.bytesCells
  rw [Array.getElem?_append_left (by simpa using h2)]
  have h3 : s.data[j]? = some b := by simpa using hb
  simp [h3]
theorem below_bytes (w : World) (e : TypeId) (s : ByteArray) : Below w.heap.size w (Lib.bytesWorld w e s) :=
  ⟨rfl, rfl, rfl, by rw [Lib.bytesWorld_size]; omega, fun k hk => Lib.bytesWorld_at_old w e s k hk⟩
end
end Go.Proofs.Ytihfopblmjgfaaa.Q
