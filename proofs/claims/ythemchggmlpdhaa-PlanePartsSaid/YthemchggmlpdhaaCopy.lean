/- copy(row[a:b], ys) as one step of a region, the row being the call's own (its words: Kd.R): behind it the row is the splice. By a program of this session. -/
import Derived.Laws.CopyOwn
import Derived.Test.YthemchggmlpdhaaWWords
namespace Go.Proofs.YthemchggmlpdhaaW.PrintWords
open Go Go.RowKit Go.Proofs.YthemchggmlpdhaaW
section
variable {P : Program}
theorem cut_own (t e : TypeId) {i : TypeInfo} (ht : P.underlying t = some (.slice e)) (hi : P.info? e = some i) (hsz : i.size = 1) (A : Option Addr) (n c : Nat) (a b : Int) (h0 : 0 ≤ a) (h1 : a ≤ b) (hm : b ≤ n) (hc : n ≤ c) :
    ∃ D : Option Addr, (0 < b.toNat - a.toNat → D = A.map (·.add a.toNat)) ∧ ∀ W : World, (Instr.slice t (.slice A n c) (some (.int .i64 a)) (some (.int .i64 b)) none).run P W = .ok (.slice D (b.toNat - a.toNat) (c - a.toNat)) W := by
  refine ⟨if c = a.toNat then A else A.map (·.add a.toNat), fun h => if_neg (by omega), fun W => ?_⟩
  have hel : P.elem t = e := by simp [Program.elem, ht]
  have hu : P.underlying t = some (.slice (P.elem t)) := by rw [hel]; exact ht
  rw [run_slice_lh W t A n c hu .i64 .i64 a b h0 h1 (by omega), hel]
  simp [sizeOf, typeInfo, hi, hsz, sliced, Result.andThen]
theorem take_splice {α : Type} (cur cs : List α) (N off : Nat) (h1 : off + cs.length ≤ N) (h2 : N ≤ cur.length) : (cur.take off ++ (cs ++ cur.drop (off + cs.length))).take N = (cur.take N).take off ++ (cs ++ (cur.take N).drop (off + cs.length)) := by
  have hA : (cur.take off).length = off := by rw [List.length_take]; omega
  rw [List.take_append, List.take_append, hA, List.take_take, List.take_take, List.drop_take, Nat.min_eq_right (by omega), Nat.min_eq_left (by omega), List.take_of_length_le (by omega : cs.length ≤ N - off), Nat.sub_sub]
theorem map_add0 (A : Option Addr) : A = A.map (·.add 0) := by cases A <;> simp [Addr.add]
theorem splice_nil {α : Type} (xs : List α) (off : Nat) : splice xs off [] = xs := by simp [splice]
theorem step_copyR {ops : Array Oper} {o : Oper} {a : Act} {w : World} {K : Act → World → Prop} {Q : Exit → Act → World → Prop} {E : Prop} (hgd : o.guard = none) (d s : Operand) (dT sT : TypeId)
    (ho : o.op = .call { callee := .builtin .copy, args := #[d, s], argTypes := #[dT, sT] }) {elem : TypeId} (hu : P.underlying dT = some (.slice elem)) (hsz : (P.info? elem).map (·.size) = some 1)
    {base : Nat} {ok : Nat → Prop} {A : Option Addr} {n cap : Nat} {xs ys : List Int} (HO : Kd.R (Kd.int .i64) elem w base ok (.slice A n cap) xs) (off m dcap : Nat) {D : Option Addr} (hD : 0 < m → D = A.map (·.add off)) (hto : off + m ≤ n)
    {sp : Option Addr} {sCap : Nat} (HR : Kd.C (Kd.int .i64) w sp ys.length ys)
    (hd : a.eval d = .slice D m dcap) (hs : a.eval s = .slice sp ys.length sCap)
    (h : ∀ w', Kd.R (Kd.int .i64) elem w' base ok (.slice A n cap) (splice xs off (ys.take m)) → w.grownBy w' (Value.slice A n cap).ownBlock → K (a.put o.dst (goInt (Nat.min ys.length m))) w') :
    if Region.wanted o (yielded ops a.tmps) = true then Oper.wp P o a w K Q else E := by
  have hw : Region.wanted o (yielded ops a.tmps) = true := by simp [Region.wanted, hgd]
  rw [if_pos hw]
  have hown := Kd.own_of_R HO
  have hokv := HO.1
  by_cases h0 : Nat.min ys.length m = 0
  · have hrun := run_copy_none (P := P) w dT sT o.type elem D sp m dcap ys.length sCap hu hsz h0
    have ht : ys.take m = [] := by
      apply List.eq_nil_of_length_eq_zero
      rw [List.length_take]
      simpa [Nat.min_comm] using h0
    have hk := h w (by rw [ht, splice_nil]; exact HO) ⟨rfl, rfl, rfl, Nat.le_refl _, fun _ _ _ => rfl⟩
    rw [h0] at hk
    unfold Oper.wp
    simp [execOp, ho, resolve, invoke, builtin, hd, hs, hrun, Result.andThen]
    exact hk
  · have hy0 : 0 < ys.length := by
      rcases Nat.eq_zero_or_pos ys.length with e | e
      · exact absurd (by rw [e]; exact Nat.zero_min m) h0
      · exact e
    have hm0 : 0 < m := by
      rcases Nat.eq_zero_or_pos m with e | e
      · exact absurd (by rw [e]; exact Nat.min_zero _) h0
      · exact e
    obtain ⟨hlen, ⟨he, hz⟩ | ⟨g, cap', cur, he, hg, hh, hn1, hcap, hcur, htake⟩⟩ := hown
    · injection he with e1 e2 e3
      omega
    · injection he with e1 e2 e3
      subst e1 e2 e3
      have hD' := hD hm0
      have hD2 : D = some ⟨g, off, none⟩ := by rw [hD']; simp [Addr.add]; intro e; exact e.symm
      subst hD2
      obtain ⟨hyl, _, hcells⟩ := HR
      obtain ⟨ad, rfl, hcell⟩ := hcells hy0
      obtain ⟨cs, hcs⟩ : ∃ cs : List Value, cs = (ys.take m).map (Value.int .i64) := ⟨_, rfl⟩
      have hcl : cs.length = Nat.min ys.length m := by
        rw [hcs, List.length_map, List.length_take]
        exact Nat.min_comm _ _
      have hcm : cs.length ≤ m := by rw [hcl]; exact Nat.min_le_right _ _
      have hsrc : ∀ j v, cs[j]? = some v → w.cell? (ad.add j) = some v := by
        intro j v hv
        have hj : j < cs.length := (List.getElem?_eq_some_iff.1 hv).1
        have hj2 : j < ys.length := by rw [hcl] at hj; exact Nat.lt_of_lt_of_le hj (Nat.min_le_left _ _)
        have hjm : j < m := by omega
        obtain ⟨c, _, hK, hc⟩ := hcell j _ (List.getElem?_eq_getElem hj2)
        have hK' : c = [Value.int .i64 ys[j]] := hK
        subst hK'
        have h3 := hc 0 _ rfl
        have h4 : v = Value.int .i64 ys[j] := by
          rw [hcs, List.getElem?_map, List.getElem?_take_of_lt hjm, List.getElem?_eq_getElem hj2] at hv
          exact (Option.some.inj hv).symm
        rw [h4]
        simpa [Kd.int, Kd.scalar] using h3
      have hfit : off + cs.length ≤ cur.size := by omega
      have h1 : ∀ v ∈ cs, v.oneCell' = true := by
        intro v hv
        rw [hcs] at hv
        obtain ⟨q, _, rfl⟩ := List.mem_map.1 hv
        rfl
      have hrun := run_copy_row (P := P) w dT sT o.type elem g off m dcap ad ys.length sCap cur elem cs hu hsz hh hcl hsrc hfit h1
      unfold Oper.wp
      simp [execOp, ho, resolve, invoke, builtin, hd, hs, hrun, Result.andThen]
      rw [hcl]
      have hsl : (splice xs off (ys.take m)).length = xs.length := length_splice _ _ _ (by rw [List.length_take]; omega)
      refine h _ (Kd.R_of_own ⟨?_, .inr ⟨g, cap, (cur.toList.take off ++ (cs ++ cur.toList.drop (off + cs.length))).toArray, ?_, hg, ?_, ?_, hcap, ?_, ?_⟩⟩ hokv) ?_
      · rw [encs_length]; omega
      · rw [hsl]
      · rw [hcl]; exact setRow_heap w g _ _ elem _ hh
      · omega
      · have : cur.toList.length = cur.size := rfl
        simp
        omega
      · have hx : cur.toList.take (xs.length * 1) = xs.map (Value.int .i64) := htake
        rw [hsl]
        show List.take _ (cur.toList.take off ++ (cs ++ cur.toList.drop (off + cs.length))) = (splice xs off (ys.take m)).map (Value.int .i64)
        unfold splice
        rw [List.map_append, List.map_append, ← hcs, List.map_take, List.map_drop, ← hx]
        have hcl2 : (ys.take m).length = cs.length := by rw [hcs, List.length_map]
        rw [hcl2]
        have hcur2 : cur.toList.length = cap * 1 := hcur
        have ht := take_splice cur.toList cs (xs.length * 1) off (by omega) (by omega)
        simpa using ht
      · refine ⟨rfl, rfl, rfl, by simp [World.setRow], fun k hk hne => setRow_other w g k _ ?_⟩
        intro e
        exact hne (by rw [e]; rfl)
end
end Go.Proofs.YthemchggmlpdhaaW.PrintWords
