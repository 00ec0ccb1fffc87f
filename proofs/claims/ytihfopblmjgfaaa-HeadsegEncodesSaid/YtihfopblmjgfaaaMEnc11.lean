/- HeadsegEncodes: a segment that is read is the one that is written. No condition beside the statement's own. Texts of this session, merged by wip/tools/merge.py. -/
import Derived.Test.YtihfopblmjgfaaaMEnc10
import Derived.Test.YtihfopblmjgfaaaMEnc6
import Derived.Test.YtihfopblmjgfaaaMEnc5
import Derived.Test.YtihfopblmjgfaaaMEnc2
import Derived.Test.YtihfopblmjgfaaaMEnc4
import Derived.Test.YtihfopblmjgfaaaMEnc9
import Derived.Test.YtihfopblmjgfaaaMEnc7
import Derived.Test.YtihfopblmjgfaaaMEnc8
import Derived.Test.YtihfopblmjgfaaaMEnc0
import Derived.ChangeArms
import Derived.SizedLaws
import Derived.Test.YtihfopblmjgfaaaRows
import Derived.WalkKit
import Derived.ProofKit
import Derived.OpenShut
import Derived.ShutString
import Derived.ChangeOld
import Derived.Below
import Derived.Carry
/- What headseg's own functions compute. Printed by wip/tools/genPureOurs.py of this session. -/
namespace Go.Proofs.Ytihfopblmjgfaaa.Pure
open Go.RowKit Go.Proofs.Ytihfopblmjgfaaa.Q Go.Proofs.YtihfopblmjgfaaaW.PrintWords
set_option linter.unusedVariables false
set_option maxRecDepth 100000
theorem valid_some (a b c d : Int) : ∃ r, rect_Valid.f a b c d = some r := by
  unfold rect_Valid.f
  repeat' split
  all_goals exact ⟨_, rfl⟩
theorem empty_some (a b c d : Int) : ∃ r, rect_Empty.f a b c d = some r := by
  unfold rect_Empty.f
  repeat' split
  all_goals exact ⟨_, rfl⟩
theorem ceil_some (a b : Int) : ∃ r, rect_CeilDiv.f a b = some r := by
  unfold rect_CeilDiv.f
  by_cases h : b < 1
  · exact ⟨_, if_pos h⟩
  · rw [if_neg h, if_neg (by omega)]
    split
    all_goals exact ⟨_, rfl⟩
theorem floor_some (a b : Int) : ∃ r, rect_FloorDiv.f a b = some r := by
  unfold rect_FloorDiv.f
  by_cases h : b < 1
  · exact ⟨_, if_pos h⟩
  · rw [if_neg h, if_neg (by omega)]
    split
    all_goals exact ⟨_, rfl⟩
theorem area_some (a b c d : Int) : ∃ r, rect_Area.f a b c d = some r := by
  obtain ⟨v, hv⟩ := valid_some a b c d
  unfold rect_Area.f
  rw [hv]
  cases v
  all_goals exact ⟨_, rfl⟩
theorem ev_reduce (a b c d x y : Int) : ∃ r, Ev (fun k => rect_Reduce.f k a b c d x y) r := by
  have hj : ∀ z, ∃ r, Ev (fun k => rect_Reduce.j0 k x y z a b c d) r := fun z => by
    cases z with
    | true => exact ⟨_, Ev.step (fun k => rect_Reduce.j0.eq_2 ..) (Ev.pos rfl (Ev.now _))⟩
    | false =>
      obtain ⟨r1, h1⟩ := ceil_some a x
      obtain ⟨r2, h2⟩ := ceil_some b y
      obtain ⟨r3, h3⟩ := ceil_some c x
      obtain ⟨r4, h4⟩ := ceil_some d y
      refine ⟨(r1, r2, r3, r4), Ev.step (fun k => rect_Reduce.j0.eq_2 ..) (Ev.neg (by simp) ?_)⟩
      rw [h1, h2, h3, h4]
      exact Ev.now _
  obtain ⟨v, hv⟩ := valid_some a b c d
  obtain ⟨rt, ht⟩ := hj true
  obtain ⟨rl, hl⟩ := hj (decide (y > 4096))
  unfold rect_Reduce.f
  rw [hv]
  simp only [Option.bind_some]
  cases v with
  | false => exact ⟨rt, Ev.neg (by simp) ht⟩
  | true =>
    by_cases c1 : x < 1
    · exact ⟨rt, Ev.pos rfl (Ev.pos c1 ht)⟩
    by_cases c2 : x > 4096
    · exact ⟨rt, Ev.pos rfl (Ev.neg c1 (Ev.pos c2 ht))⟩
    by_cases c3 : y < 1
    · exact ⟨rt, Ev.pos rfl (Ev.neg c1 (Ev.neg c2 (Ev.pos c3 ht)))⟩
    · exact ⟨rl, Ev.pos rfl (Ev.neg c1 (Ev.neg c2 (Ev.neg c3 hl)))⟩
theorem pwithin_l0 : ∀ (k : Nat) (lo hi : Int) (l : List Int) (n i : Int), params_within.l0 k lo hi l n i = headseg_within.l0 k lo hi l n i
  | 0, _, _, _, _, _ => rfl
  | k + 1, lo, hi, l, n, i => by rw [params_within.l0.eq_2, headseg_within.l0.eq_2, pwithin_l0 k]
theorem ev_pwithin (lo hi : Int) (l : List Int) (hl : l.length ≤ 9223372036854775807) : Ev (fun k => params_within.f k lo hi l) (inside lo hi l) :=
  Ev.congr (fun k => pwithin_l0 k lo hi l _ _) (ev_within lo hi l hl)
theorem rdC_at {s : List S97} (i : Nat) (hi : i < s.length) : rd_T97 s (i : Int) = s[i] := by
  unfold rd_T97
  rw [Int.toNat_natCast, List.getD_eq_getElem?_getD, List.getElem?_eq_getElem hi]
  rfl
def compOK (c : S97) : Prop := (1 ≤ c.f0 ∧ c.f0 ≤ 16) ∧ (1 ≤ c.f2 ∧ c.f2 ≤ 4) ∧ (1 ≤ c.f3 ∧ c.f3 ≤ 4)
theorem valid_true {a b c d : Int} (h : rect_Valid.f a b c d = some true) : (0 ≤ a ∧ a ≤ 4096) ∧ (0 ≤ b ∧ b ≤ 4096) ∧ (0 ≤ c ∧ c ≤ 4096) ∧ (0 ≤ d ∧ d ≤ 4096) := by
  unfold rect_Valid.f at h
  split at h
  · split at h
    · split at h
      · split at h
        · split at h
          · have := of_decide_eq_true (Option.some.inj h)
            omega
          · simp at h
        · simp at h
      · simp at h
    · simp at h
  · simp at h
theorem hdr_l1 (a b c d tw th : Int) (l : List S97) (hl : l.length ≤ 100000) (n : Nat) : ∀ i, i + n = l.length → ∃ r, Ev (fun k => params_Header.l1 k l (l.length : Int) (i : Int) a b c d tw th l) r := by
  induction n with
  | zero =>
    intro i hi
    exact ⟨0, Ev.step (fun k => params_Header.l1.eq_2 ..) (Ev.neg (by omega) (Ev.now _))⟩
  | succ n ih =>
    intro i hi
    have hw : wrap64 ((i : Int) + 1) = ((i + 1 : Nat) : Int) := by unfold wrap64; omega
    obtain ⟨⟨p, q, u, v⟩, hr⟩ := ev_reduce a b c d (rd_T97 l i).f2 (rd_T97 l i).f3
    obtain ⟨ar, ha⟩ := area_some p q u v
    obtain ⟨r, h1⟩ := ih (i + 1) (by omega)
    by_cases hc : ar > 1048576
    · refine ⟨5, Ev.step (fun k => params_Header.l1.eq_2 ..) (Ev.pos (by omega) (Ev.pos (by omega) (Ev.pos (by omega) (Ev.bind hr ?_))))⟩
      simp only [ha, Option.bind_some]; exact Ev.pos hc (Ev.now _)
    · refine ⟨r, Ev.step (fun k => params_Header.l1.eq_2 ..) (Ev.pos (by omega) (Ev.pos (by omega) (Ev.pos (by omega) (Ev.bind hr ?_))))⟩
      simp only [ha, Option.bind_some, hw]; exact Ev.neg hc h1
theorem hdr_l0 (a b c d tw th : Int) (l : List S97) (hl : l.length ≤ 100000) (n : Nat) : ∀ i, i + n = l.length → ∃ r, Ev (fun k => params_Header.l0 k l (l.length : Int) (i : Int) a b c d tw th l) r ∧ (r = 0 → ∀ x ∈ l.drop i, compOK x) := by
  induction n with
  | zero =>
    intro i hi
    have hn : ∀ x ∈ l.drop i, compOK x := by rw [List.drop_eq_nil_of_le (by omega)]; simp
    obtain ⟨r1, h1⟩ := ceil_some c tw
    obtain ⟨r2, h2⟩ := floor_some a tw
    obtain ⟨r3, h3⟩ := ceil_some d th
    obtain ⟨r4, h4⟩ := floor_some b th
    obtain ⟨r, q1⟩ := hdr_l1 a b c d tw th l hl l.length 0 (by omega)
    by_cases hc : (wrap64 ((wrap64 (r1 - r2)) * (wrap64 (r3 - r4)))) > 1024
    · refine ⟨5, Ev.step (fun k => params_Header.l0.eq_2 ..) (Ev.neg (by omega) ?_), fun _ => hn⟩
      simp only [h1, h2, h3, h4, Option.bind_some]; exact Ev.pos hc (Ev.now _)
    · refine ⟨r, Ev.step (fun k => params_Header.l0.eq_2 ..) (Ev.neg (by omega) ?_), fun _ => hn⟩
      simp only [h1, h2, h3, h4, Option.bind_some]; exact Ev.neg hc q1
  | succ n ih =>
    intro i hi
    have hlt : i < l.length := by omega
    have hw : wrap64 ((i : Int) + 1) = ((i + 1 : Nat) : Int) := by unfold wrap64; omega
    obtain ⟨⟨p, q, u, v⟩, hr⟩ := ev_reduce a b c d (rd_T97 l i).f2 (rd_T97 l i).f3
    obtain ⟨em, he⟩ := empty_some p q u v
    obtain ⟨r, h1, h1n⟩ := ih (i + 1) (by omega)
    have w1 := ev_pwithin 1 16 [(rd_T97 l i).f0] (by simp)
    have w2 := ev_pwithin 1 4 [(rd_T97 l i).f2, (rd_T97 l i).f3] (by simp)
    have e1 : inside 1 16 [(rd_T97 l i).f0] = true → (1 ≤ (rd_T97 l i).f0 ∧ (rd_T97 l i).f0 ≤ 16) := by simp [inside]
    have e2 : inside 1 4 [(rd_T97 l i).f2, (rd_T97 l i).f3] = true → ((1 ≤ (rd_T97 l i).f2 ∧ (rd_T97 l i).f2 ≤ 4) ∧ (1 ≤ (rd_T97 l i).f3 ∧ (rd_T97 l i).f3 ≤ 4)) := by
      intro h; simp [inside] at h; omega
    have hgo : inside 1 16 [(rd_T97 l i).f0] = true → inside 1 4 [(rd_T97 l i).f2, (rd_T97 l i).f3] = true → r = 0 → ∀ x ∈ l.drop i, compOK x := by
      intro g1 g2 g3 x hx
      rw [List.drop_eq_getElem_cons hlt] at hx
      rcases List.mem_cons.1 hx with rfl | hx
      · have := e1 g1
        have := e2 g2
        rw [rdC_at i hlt] at *
        unfold compOK
        omega
      · exact h1n g3 x hx
    generalize inside 1 16 [(rd_T97 l i).f0] = b1 at w1 hgo
    generalize inside 1 4 [(rd_T97 l i).f2, (rd_T97 l i).f3] = b2 at w2 hgo
    suffices hh : ∃ r, Ev (fun k => (params_within.f k 1 16 (([(rd_T97 l i).f0] : List Int))).bind fun t777 => (if t777 = true then ((params_within.f k 1 4 (([(rd_T97 l i).f2, (rd_T97 l i).f3] : List Int))).bind fun t781 => (if t781 = true then ((rect_Reduce.f k a b c d ((rd_T97 l i).f2) ((rd_T97 l i).f3)).bind fun bt782 => ((rect_Empty.f bt782.1 bt782.2.1 bt782.2.2.1 bt782.2.2.2).bind fun t786 => (if t786 = true then (some 12) else (params_Header.l0 k l (l.length : Int) (wrap64 ((i : Int) + 1)) a b c d tw th l)))) else (some 12))) else (some 12))) r ∧ (r = 0 → ∀ x ∈ l.drop i, compOK x) by
      obtain ⟨r, h1, h2⟩ := hh
      exact ⟨r, Ev.step (fun k => params_Header.l0.eq_2 ..) (Ev.pos (by omega) (Ev.pos (by omega) (Ev.pos (by omega) h1))), h2⟩
    rw [hw]
    cases b1 with
    | false => exact ⟨12, Ev.bind w1 (Ev.neg (by simp) (Ev.now _)), by simp⟩
    | true =>
    cases b2 with
    | false => exact ⟨12, Ev.bind w1 (Ev.pos rfl (Ev.bind w2 (Ev.neg (by simp) (Ev.now _)))), by simp⟩
    | true =>
    cases em with
    | true =>
      refine ⟨12, Ev.bind w1 (Ev.pos rfl (Ev.bind w2 (Ev.pos rfl (Ev.bind hr ?_)))), by simp⟩
      simp only [he, Option.bind_some]; exact Ev.pos trivial (Ev.now _)
    | false =>
      refine ⟨r, Ev.bind w1 (Ev.pos rfl (Ev.bind w2 (Ev.pos rfl (Ev.bind hr ?_)))), hgo rfl rfl⟩
      simp only [he, Option.bind_some]; exact Ev.neg (by simp) h1
def hdrOK (a b c d tw th : Int) (l : List S97) : Prop := ((0 ≤ a ∧ a ≤ 4096) ∧ (0 ≤ b ∧ b ≤ 4096) ∧ (0 ≤ c ∧ c ≤ 4096) ∧ (0 ≤ d ∧ d ≤ 4096)) ∧ ((1 ≤ tw ∧ tw ≤ 4096) ∧ (1 ≤ th ∧ th ≤ 4096)) ∧ l.length ≤ 4 ∧ ∀ x ∈ l, compOK x
theorem hdr_ev (a b c d tw th : Int) (l : List S97) (hl : l.length ≤ 100000) : ∃ r, Ev (fun k => params_Header.f k a b c d tw th l) r ∧ (r = 0 → hdrOK a b c d tw th l) := by
  have ht : Ev (fun k => params_Header.j0 k true a b c d tw th l) 12 := Ev.step (fun k => params_Header.j0.eq_2 ..) (Ev.pos rfl (Ev.now _))
  obtain ⟨r0, h0, h0n⟩ := hdr_l0 a b c d tw th l hl l.length 0 (by omega)
  have hf : Ev (fun k => params_Header.j0 k false a b c d tw th l) r0 := Ev.step (fun k => params_Header.j0.eq_2 ..) (Ev.neg (by simp) h0)
  obtain ⟨v, hv⟩ := valid_some a b c d
  obtain ⟨em, he⟩ := empty_some a b c d
  have w1 := ev_pwithin 1 4096 [tw, th] (by simp)
  have w2 := ev_pwithin 1 4 [(l.length : Int)] (by simp)
  have e1 : inside 1 4096 [tw, th] = true → ((1 ≤ tw ∧ tw ≤ 4096) ∧ (1 ≤ th ∧ th ≤ 4096)) := by intro h; simp [inside] at h; omega
  have e2 : inside 1 4 [(l.length : Int)] = true → l.length ≤ 4 := by intro h; simp [inside] at h; omega
  generalize inside 1 4096 [tw, th] = b1 at w1 e1
  generalize inside 1 4 [(l.length : Int)] = b2 at w2 e2
  unfold params_Header.f
  simp only [hv, he, Option.bind_some]
  cases v with
  | false => exact ⟨12, Ev.neg (by simp) ht, by simp⟩
  | true =>
  cases em with
  | true => exact ⟨12, Ev.pos rfl (Ev.pos rfl ht), by simp⟩
  | false =>
  cases b1 with
  | false => exact ⟨12, Ev.pos rfl (Ev.neg (by simp) (Ev.bind w1 (Ev.neg (by simp) ht))), by simp⟩
  | true =>
  cases b2 with
  | false => exact ⟨12, Ev.pos rfl (Ev.neg (by simp) (Ev.bind w1 (Ev.pos rfl (Ev.bind w2 ht)))), by simp⟩
  | true => exact ⟨r0, Ev.pos rfl (Ev.neg (by simp) (Ev.bind w1 (Ev.pos rfl (Ev.bind w2 hf)))), fun h => ⟨valid_true hv, e1 rfl, e2 rfl, by simpa using h0n h⟩⟩
/-- The bytes of a component. -/
def encC (c : S97) : List Int := [(if c.f1 = true then wrap64 (wrap64 (c.f0 - 1) + 128) else wrap64 (c.f0 - 1)) % 256, c.f2 % 256, c.f3 % 256]
def encCs : List S97 → List Int
  | [] => []
  | c :: l => encC c ++ encCs l
theorem encCs_length : ∀ l, (encCs l).length = 3 * l.length
  | [] => rfl
  | c :: l => by simp [encCs, encC, encCs_length l]; omega
def enc2 : List Int → List Int
  | [] => []
  | v :: l => be v 2 ++ enc2 l
theorem enc2_length : ∀ l : List Int, (enc2 l).length = 2 * l.length
  | [] => rfl
  | v :: l => by simp [enc2, be_length, enc2_length l]; omega
theorem size_l1 (l : List S97) (hl : l.length ≤ 100000) (n : Nat) : ∀ (i : Nat) (acc : List Int), i + n = l.length → acc.length ≤ 1000 + 3 * i → Ev (fun k => headseg_Size.l1 k acc l (l.length : Int) (i : Int)) (65441, acc ++ encCs (l.drop i), 0) := by
  induction n with
  | zero =>
    intro i acc hi ha
    rw [List.drop_eq_nil_of_le (by omega)]
    exact Ev.step (fun k => headseg_Size.l1.eq_2 ..) (Ev.neg (by omega) (by simpa [encCs] using Ev.now ((65441 : Int), acc, (0 : Int))))
  | succ n ih =>
    intro i acc hi ha
    have hlt : i < l.length := by omega
    have hw : wrap64 ((i : Int) + 1) = ((i + 1 : Nat) : Int) := by unfold wrap64; omega
    refine Ev.step (fun k => headseg_Size.l1.eq_2 ..) (Ev.pos (by omega) (Ev.pos (by omega) (Ev.pos (by omega) ?_)))
    rw [rdC_at i hlt, hw, List.drop_eq_getElem_cons hlt]
    have := ih (i + 1) (acc ++ encC l[i]) (by omega) (by simp [encC]; omega)
    by_cases hs : l[i].f1 = true
    · refine Ev.pos hs ?_
      simp only [Option.bind_some]
      refine Ev.pos (by simp; omega) ?_
      simpa [encCs, encC, hs] using this
    · refine Ev.neg hs ?_
      simp only [Option.bind_some]
      refine Ev.pos (by simp; omega) ?_
      simpa [encCs, encC, hs] using this
theorem size_l0 (a b c d tw th : Int) (l : List S97) (hl : l.length ≤ 100000) (m : List Int) (hm : m.length ≤ 10) (n : Nat) : ∀ (i : Nat) (acc : List Int), i + n = m.length → acc.length ≤ 2 * i → Ev (fun k => headseg_Size.l0 k acc m (m.length : Int) (i : Int) a b c d tw th l) (65441, acc ++ enc2 (m.drop i) ++ be (l.length : Int) 1 ++ encCs l, 0) := by
  induction n with
  | zero =>
    intro i acc hi ha
    rw [List.drop_eq_nil_of_le (by omega)]
    refine Ev.step (fun k => headseg_Size.l0.eq_2 ..) (Ev.neg (by omega) (Ev.bind (ev_put acc _ 1 (by omega) (by omega)) ?_))
    have := size_l1 l hl l.length 0 (acc ++ be (l.length : Int) 1) (by omega) (by simp [be_length]; omega)
    simpa [enc2] using this
  | succ n ih =>
    intro i acc hi ha
    have hlt : i < m.length := by omega
    refine Ev.step (fun k => headseg_Size.l0.eq_2 ..) (Ev.pos (by omega) (Ev.pos (by omega) (Ev.pos (by omega) (Ev.bind (ev_put acc _ 2 (by omega) (by omega)) ?_))))
    rw [show wrap64 ((i : Int) + 1) = ((i + 1 : Nat) : Int) by unfold wrap64; omega, rd_at i hlt, List.drop_eq_getElem_cons hlt]
    have := ih (i + 1) (acc ++ be m[i] 2) (by omega) (by simp [be_length]; omega)
    simpa [enc2] using this
/-- The bytes of a header. -/
def SizeB (a b c d tw th : Int) (l : List S97) : List Int := enc2 [a, b, c, d, tw, th] ++ be (l.length : Int) 1 ++ encCs l
def SizeF (r a b c d tw th : Int) (l : List S97) : Int × List Int × Int := if r = 0 then (65441, SizeB a b c d tw th l, 0) else (0, [], r)
theorem size_ev (a b c d tw th : Int) (l : List S97) (hl : l.length ≤ 100000) {r : Int} (h : Ev (fun k => params_Header.f k a b c d tw th l) r) : Ev (fun k => headseg_Size.f k a b c d tw th l) (SizeF r a b c d tw th l) := by
  refine Ev.congr (fun k => headseg_Size.f.eq_1 ..) (Ev.bind h ?_)
  unfold SizeF
  by_cases hr : r = 0
  · rw [if_pos hr]
    refine Ev.pos hr ?_
    have := size_l0 a b c d tw th l hl [a, b, c, d, tw, th] (by simp) 6 0 [] (by simp) (by simp)
    simpa [SizeB] using this
  · rw [if_neg hr]
    exact Ev.neg hr (Ev.now _)
theorem SizeF_length (r a b c d tw th : Int) (l : List S97) (hl : l.length ≤ 100000) : (SizeF r a b c d tw th l).2.1.length ≤ 1000000 := by
  unfold SizeF
  split
  · simp [SizeB, enc2, be_length, encCs_length]; omega
  · simp

/-! ### ParseSize -/
theorem and127 : ∀ b : Fin 256, Go.bits .and .i64 ((b.val : Nat) : Int) 127 = ((b.val % 128 : Nat) : Int) := by decide +kernel
/-- The component that lies at a place. -/
def compAt (l : List Int) (p : Nat) : S97 := ⟨l.getD p 0 % 128 + 1, decide (l.getD p 0 ≥ 128), l.getD (p + 1) 0, l.getD (p + 2) 0⟩
def compsAt (l : List Int) : Nat → Nat → List S97
  | _, 0 => []
  | p, n + 1 => compAt l p :: compsAt l (p + 3) n
theorem compsAt_length (l : List Int) : ∀ n p, (compsAt l p n).length = n
  | 0, p => rfl
  | n + 1, p => by simp [compsAt, compsAt_length l n]
theorem comp_our {b x y : Int} (h0 : 0 ≤ b) (h1 : b ≤ 255) : (⟨wrap64 (Go.bits .and .i64 b 127 + 1), decide (b ≥ 128), x, y⟩ : S97) = ⟨b % 128 + 1, decide (b ≥ 128), x, y⟩ := by
  have h := and127 ⟨b.toNat, by omega⟩
  simp only [show ((b.toNat : Nat) : Int) = b by omega] at h
  rw [h, show wrap64 (((b.toNat % 128 : Nat) : Int) + 1) = b % 128 + 1 by unfold wrap64; omega]
theorem sizeLoop_in {l : List Int} (hb : ∀ x ∈ l, (Lit.int .u8 x).wf = true) (hl : l.length ≤ 1000000) (n : Nat) : ∀ (p : Nat) (xs : List S97), p + 3 * n ≤ l.length → xs.length ≤ p → Ev (fun k => sizeLoop k l (p : Int) (n : Int) xs) (0, xs ++ compsAt l p n, ((p + 3 * n : Nat) : Int)) := by
  induction n with
  | zero =>
    intro p xs hp hx
    refine Ev.step (fun k => sizeLoop.eq_2 ..) (Ev.neg (by omega) ?_)
    simpa [compsAt] using Ev.now ((0 : Int), xs, (p : Int))
  | succ n ih =>
    intro p xs hp hx
    have e1 : wrap64 ((p : Int) + 1) = ((p + 1 : Nat) : Int) := by unfold wrap64; omega
    have e2 : wrap64 (((p + 1 : Nat) : Int) + 1) = ((p + 2 : Nat) : Int) := by unfold wrap64; omega
    have e3 : wrap64 (((p + 2 : Nat) : Int) + 1) = ((p + 3 : Nat) : Int) := by unfold wrap64; omega
    have e4 : wrap64 (((n + 1 : Nat) : Int) - 1) = (n : Int) := by unfold wrap64; omega
    have r1 := ev_in l hl p 1 (by omega) (by omega) (by omega)
    have r2 := ev_in l hl (p + 1) 1 (by omega) (by omega) (by omega)
    have r3 := ev_in l hl (p + 2) 1 (by omega) (by omega) (by omega)
    rw [num_one hb p (by omega)] at r1
    rw [num_one hb (p + 1) (by omega)] at r2
    rw [num_one hb (p + 2) (by omega)] at r3
    obtain ⟨b0, b1⟩ := wf_u8 (hb _ (List.getElem_mem (show p < l.length by omega)))
    have hc : (⟨wrap64 (Go.bits .and .i64 l[p] 127 + 1), decide (l[p] ≥ 128), l[p + 1], l[p + 2]⟩ : S97) = compAt l p := by
      rw [comp_our b0 b1]
      unfold compAt
      rw [getD_at p (by omega), getD_at (p + 1) (by omega), getD_at (p + 2) (by omega)]
    have := ih (p + 3) (xs ++ [compAt l p]) (by omega) (by simp; omega)
    refine Ev.step (fun k => sizeLoop.eq_2 ..) (Ev.pos (by omega) (Ev.pos (by omega) (ev_rdn r1 ?_)))
    rw [e1, e2, e3, e4]
    refine ev_rdn r2 (ev_rdn r3 ?_)
    rw [hc]
    simpa [compsAt, show p + 3 + 3 * n = p + 3 * (n + 1) by omega] using this
theorem sizeLoop_out {l : List Int} (hl : l.length ≤ 1000000) (n : Nat) : ∀ (p : Nat) (xs : List S97), p ≤ l.length → l.length < p + 3 * n → xs.length ≤ p → n ≤ 1000000 → Ev (fun k => sizeLoop k l (p : Int) (n : Int) xs) (7, [], 0) := by
  induction n with
  | zero =>
    intro p xs hp hq hx hn1
    omega
  | succ n ih =>
    intro p xs hp hq hx hn1
    have e1 : wrap64 ((p : Int) + 1) = ((p + 1 : Nat) : Int) := by unfold wrap64; omega
    have e2 : wrap64 (((p + 1 : Nat) : Int) + 1) = ((p + 2 : Nat) : Int) := by unfold wrap64; omega
    have e3 : wrap64 (((p + 2 : Nat) : Int) + 1) = ((p + 3 : Nat) : Int) := by unfold wrap64; omega
    have e4 : wrap64 (((n + 1 : Nat) : Int) - 1) = (n : Int) := by unfold wrap64; omega
    refine Ev.step (fun k => sizeLoop.eq_2 ..) (Ev.pos (by omega) (Ev.pos (by omega) ?_))
    rw [e1, e2, e3, e4]
    by_cases c1 : p + 1 ≤ l.length
    rotate_left
    · exact ev_rdn_bad (by omega) (ev_out l hl p 1 (by omega) (by omega) hp (by omega))
    refine ev_rdn (ev_in l hl p 1 (by omega) (by omega) c1) ?_
    by_cases c2 : p + 2 ≤ l.length
    rotate_left
    · exact ev_rdn_bad (by omega) (ev_out l hl (p + 1) 1 (by omega) (by omega) (by omega) (by omega))
    refine ev_rdn (ev_in l hl (p + 1) 1 (by omega) (by omega) c2) ?_
    by_cases c3 : p + 3 ≤ l.length
    rotate_left
    · exact ev_rdn_bad (by omega) (ev_out l hl (p + 2) 1 (by omega) (by omega) (by omega) (by omega))
    refine ev_rdn (ev_in l hl (p + 2) 1 (by omega) (by omega) c3) ?_
    exact ih (p + 3) _ c3 (by omega) (by simp; omega) (by omega)
/-- The number of components. -/
def cnt (l : List Int) : Nat := (l.getD 12 0).toNat
def head6 (l : List Int) : Int × Int × Int × Int × Int × Int := (num (sub l 0 2), num (sub l 2 2), num (sub l 4 2), num (sub l 6 2), num (sub l 8 2), num (sub l 10 2))
theorem sizeRead_ev {l : List Int} (hb : ∀ x ∈ l, (Lit.int .u8 x).wf = true) (hl : l.length ≤ 1000000) :
    Ev (fun k => sizeRead k l) (if 13 ≤ l.length ∧ 13 + 3 * cnt l ≤ l.length then (0, (head6 l).1, (head6 l).2.1, (head6 l).2.2.1, (head6 l).2.2.2.1, (head6 l).2.2.2.2.1, (head6 l).2.2.2.2.2, compsAt l 13 (cnt l), ((13 + 3 * cnt l : Nat) : Int)) else badSize 7) := by
  unfold sizeRead
  by_cases c0 : 2 ≤ l.length
  rotate_left
  · rw [if_neg (by omega)]; exact ev_rdn_bad (by omega) (ev_out l hl 0 2 (by omega) (by omega) (by omega) (by omega))
  refine ev_rdn (ev_in l hl 0 2 (by omega) (by omega) c0) ?_
  by_cases c1 : 4 ≤ l.length
  rotate_left
  · rw [if_neg (by omega)]; exact ev_rdn_bad (by omega) (ev_out l hl 2 2 (by omega) (by omega) (by omega) (by omega))
  refine ev_rdn (ev_in l hl 2 2 (by omega) (by omega) c1) ?_
  by_cases c2 : 6 ≤ l.length
  rotate_left
  · rw [if_neg (by omega)]; exact ev_rdn_bad (by omega) (ev_out l hl 4 2 (by omega) (by omega) (by omega) (by omega))
  refine ev_rdn (ev_in l hl 4 2 (by omega) (by omega) c2) ?_
  by_cases c3 : 8 ≤ l.length
  rotate_left
  · rw [if_neg (by omega)]; exact ev_rdn_bad (by omega) (ev_out l hl 6 2 (by omega) (by omega) (by omega) (by omega))
  refine ev_rdn (ev_in l hl 6 2 (by omega) (by omega) c3) ?_
  by_cases c4 : 10 ≤ l.length
  rotate_left
  · rw [if_neg (by omega)]; exact ev_rdn_bad (by omega) (ev_out l hl 8 2 (by omega) (by omega) (by omega) (by omega))
  refine ev_rdn (ev_in l hl 8 2 (by omega) (by omega) c4) ?_
  by_cases c5 : 12 ≤ l.length
  rotate_left
  · rw [if_neg (by omega)]; exact ev_rdn_bad (by omega) (ev_out l hl 10 2 (by omega) (by omega) (by omega) (by omega))
  refine ev_rdn (ev_in l hl 10 2 (by omega) (by omega) c5) ?_
  by_cases c6 : 13 ≤ l.length
  rotate_left
  · rw [if_neg (by omega)]; exact ev_rdn_bad (by omega) (ev_out l hl 12 1 (by omega) (by omega) (by omega) (by omega))
  have r := ev_in l hl 12 1 (by omega) (by omega) c6
  obtain ⟨b0, b1⟩ := wf_u8 (hb _ (List.getElem_mem (show 12 < l.length by omega)))
  have hn : num (sub l 12 1) = (cnt l : Int) := by
    rw [num_one hb 12 (by omega)]
    unfold cnt
    rw [getD_at 12 (by omega)]
    omega
  rw [hn] at r
  refine ev_rdn r ?_
  by_cases c7 : 13 + 3 * cnt l ≤ l.length
  · rw [if_pos ⟨c6, c7⟩]
    have := sizeLoop_in hb hl (cnt l) 13 [] c7 (by simp)
    exact Ev.bind this (by simpa [head6] using Ev.now _)
  · rw [if_neg (by omega)]
    have hcn : cnt l ≤ 255 := by unfold cnt; rw [getD_at 12 (by omega)]; omega
    have := sizeLoop_out hl (cnt l) 13 [] c6 (by omega) (by simp) (by omega)
    exact Ev.bind this (by simpa using Ev.now (badSize 7))

def zeroH (e : Int) : Int × Int × Int × Int × Int × Int × List S97 × Int := (0, 0, 0, 0, 0, 0, [], e)
/-- What ParseSize returns, r the answer of the header's check. -/
def PSizeF (r c : Int) (l : List Int) : Int × Int × Int × Int × Int × Int × List S97 × Int :=
  if c = 65441 then (if 13 ≤ l.length ∧ 13 + 3 * cnt l ≤ l.length then (if 13 + 3 * cnt l < l.length then zeroH 9 else if r = 0 then ((head6 l).1, (head6 l).2.1, (head6 l).2.2.1, (head6 l).2.2.2.1, (head6 l).2.2.2.2.1, (head6 l).2.2.2.2.2, compsAt l 13 (cnt l), 0) else zeroH r) else zeroH 7) else zeroH 11
theorem cnt_le {l : List Int} (hb : ∀ x ∈ l, (Lit.int .u8 x).wf = true) (h : 13 ≤ l.length) : cnt l ≤ 255 ∧ l[12] = (cnt l : Int) := by
  obtain ⟨b0, b1⟩ := wf_u8 (hb _ (List.getElem_mem (show 12 < l.length by omega)))
  unfold cnt
  rw [getD_at 12 (by omega)]
  omega
theorem psize_ev {l : List Int} (hb : ∀ x ∈ l, (Lit.int .u8 x).wf = true) (hl : l.length ≤ 1000000) (c : Int) {r : Int} (h : Ev (fun k => params_Header.f k (head6 l).1 (head6 l).2.1 (head6 l).2.2.1 (head6 l).2.2.2.1 (head6 l).2.2.2.2.1 (head6 l).2.2.2.2.2 (compsAt l 13 (cnt l))) r) :
    Ev (fun k => headseg_ParseSize.f k c l) (PSizeF r c l) := by
  refine Ev.congr (fun k => headseg_ParseSize.f.eq_1 ..) (Ev.bind (sizeRead_ev hb hl) ?_)
  unfold PSizeF
  by_cases hc : c = 65441
  · rw [if_pos hc]
    refine Ev.pos hc ?_
    by_cases h1 : 13 ≤ l.length ∧ 13 + 3 * cnt l ≤ l.length
    · rw [if_pos h1, if_pos h1]
      refine Ev.pos rfl ?_
      by_cases h2 : 13 + 3 * cnt l < l.length
      · rw [if_pos h2]
        exact Ev.pos (show ((13 + 3 * cnt l : Nat) : Int) < (l.length : Int) by omega) (Ev.now _)
      · rw [if_neg h2]
        refine Ev.neg (show ¬ ((13 + 3 * cnt l : Nat) : Int) < (l.length : Int) by omega) (Ev.bind h ?_)
        by_cases h3 : r = 0
        · rw [if_pos h3, if_pos h3]; exact Ev.now _
        · rw [if_neg h3, if_neg h3]; exact Ev.now _
    · rw [if_neg h1, if_neg h1]
      exact Ev.neg (by simp [badSize]) (Ev.now _)
  · rw [if_neg hc]
    exact Ev.neg hc (Ev.now _)
theorem PSizeF_comps (r c : Int) {l : List Int} (hb : ∀ x ∈ l, (Lit.int .u8 x).wf = true) : (PSizeF r c l).2.2.2.2.2.2.1.length ≤ 100000 := by
  unfold PSizeF
  split
  · split
    · split
      · simp [zeroH]
      · split
        · rename_i h _ _
          have := (cnt_le hb h.1).1
          simp only [compsAt_length]
          omega
        · simp [zeroH]
    · simp [zeroH]
  · simp [zeroH]
/-- The bytes of the steps. -/
def encS : List Int → List Int
  | [] => []
  | x :: l => be (wrap64 (x - 1)) 2 ++ encS l
theorem encS_length : ∀ l, (encS l).length = 2 * l.length
  | [] => rfl
  | x :: l => by simp [encS, be_length, encS_length l]; omega
theorem quant_l0 (s : List Int) (hl : s.length ≤ 100000) (n : Nat) : ∀ (i : Nat) (acc : List Int), i + n = s.length → acc.length ≤ 1000 + 2 * i → Ev (fun k => headseg_Quant.l0 k acc s (s.length : Int) (i : Int)) (65443, acc ++ encS (s.drop i), 0) := by
  induction n with
  | zero =>
    intro i acc hi ha
    rw [List.drop_eq_nil_of_le (by omega)]
    exact Ev.step (fun k => headseg_Quant.l0.eq_2 ..) (Ev.neg (by omega) (by simpa [encS] using Ev.now ((65443 : Int), acc, (0 : Int))))
  | succ n ih =>
    intro i acc hi ha
    have hlt : i < s.length := by omega
    have hw : wrap64 ((i : Int) + 1) = ((i + 1 : Nat) : Int) := by unfold wrap64; omega
    refine Ev.step (fun k => headseg_Quant.l0.eq_2 ..) (Ev.pos (by omega) (Ev.pos (by omega) (Ev.pos (by omega) ?_)))
    rw [rd_at i hlt, hw, List.drop_eq_getElem_cons hlt]
    have := ih (i + 1) (acc ++ be (wrap64 (s[i] - 1)) 2) (by omega) (by simp [be_length]; omega)
    exact Ev.bind (ev_put acc _ 2 (by omega) (by omega)) (by simpa [encS] using this)
def QuantF (dd : Int) (s : List Int) : Int × List Int × Int :=
  if (0 ≤ dd ∧ dd ≤ 255) ∧ s.length ≤ 255 ∧ inside 1 65536 s = true then (65443, be dd 1 ++ be (s.length : Int) 1 ++ encS s, 0) else (0, [], 2)
theorem QuantF_length (dd : Int) (s : List Int) : (QuantF dd s).2.1.length ≤ 1000 := by
  unfold QuantF
  split
  · simp [be_length, encS_length]; omega
  · simp
theorem quant_ev (p0 : Int) (p1 : Int) (p2 : Int) (p3 : Int) (p4 : Int) (t : List S89) (p6 : Int) (p7 : Int) (p8 : Bool) (p9 : Bool) (p10 : Bool) (p11 : Bool) (p12 : Bool) (p13 : Bool) (p14 : Bool) (p15 : Bool) (s : List Int) (dd : Int) (p18 : Int) (hl : s.length ≤ 300) : Ev (fun k => headseg_Quant.f k p0 p1 p2 p3 p4 t p6 p7 p8 p9 p10 p11 p12 p13 p14 p15 s dd p18) (QuantF dd s) := by
  refine Ev.congr (fun k => headseg_Quant.f.eq_1 ..) (Ev.bind (ev_within 0 255 [dd, (s.length : Int)] (by simp)) ?_)
  unfold QuantF
  by_cases h1 : inside 0 255 [dd, (s.length : Int)] = true
  · refine Ev.pos h1 (Ev.bind (ev_within 1 65536 s (by omega)) (Ev.step (fun k => headseg_Quant.j0.eq_2 ..) ?_))
    have h1' : (0 ≤ dd ∧ dd ≤ 255) ∧ s.length ≤ 255 := by
      simp [inside] at h1
      omega
    by_cases h2 : inside 1 65536 s = true
    · rw [if_pos ⟨h1'.1, h1'.2, h2⟩]
      refine Ev.neg (by simp [h2]) ?_
      have := quant_l0 s (by omega) s.length 0 [dd % 256, (s.length : Int) % 256] (by omega) (by simp)
      simpa [be] using this
    · rw [if_neg (fun h => h2 h.2.2)]
      exact Ev.pos (by simp [h2]) (Ev.now _)
  · rw [if_neg (fun h => h1 (by simp [inside]; omega))]
    exact Ev.neg h1 (Ev.step (fun k => headseg_Quant.j0.eq_2 ..) (Ev.pos rfl (Ev.now _)))
/-- The steps of a segment. -/
def stepsAt (l : List Int) : Nat → Nat → List Int
  | _, 0 => []
  | p, n + 1 => wrap64 (num (sub l p 2) + 1) :: stepsAt l (p + 2) n
theorem stepsAt_length (l : List Int) : ∀ n p, (stepsAt l p n).length = n
  | 0, _ => rfl
  | n + 1, p => by simp [stepsAt, stepsAt_length l n]
theorem quantLoop_in {l : List Int} (hl : l.length ≤ 1000000) (n : Nat) : ∀ (p : Nat) (xs : List Int), p + 2 * n ≤ l.length → xs.length ≤ p → Ev (fun k => quantLoop k l (p : Int) (n : Int) xs) (0, xs ++ stepsAt l p n, ((p + 2 * n : Nat) : Int)) := by
  induction n with
  | zero =>
    intro p xs hp hx
    refine Ev.step (fun k => quantLoop.eq_2 ..) (Ev.neg (by omega) ?_)
    simpa [stepsAt] using Ev.now ((0 : Int), xs, (p : Int))
  | succ n ih =>
    intro p xs hp hx
    have e2 : wrap64 ((p : Int) + 2) = ((p + 2 : Nat) : Int) := by unfold wrap64; omega
    have e4 : wrap64 (((n + 1 : Nat) : Int) - 1) = (n : Int) := by unfold wrap64; omega
    have := ih (p + 2) (xs ++ [wrap64 (num (sub l p 2) + 1)]) (by omega) (by simp; omega)
    refine Ev.step (fun k => quantLoop.eq_2 ..) (Ev.pos (by omega) (Ev.pos (by omega) (ev_rdn (ev_in l hl p 2 (by omega) (by omega) (by omega)) ?_)))
    rw [e2, e4]
    simpa [stepsAt, show p + 2 + 2 * n = p + 2 * (n + 1) by omega] using this
theorem quantLoop_out {l : List Int} (hl : l.length ≤ 1000000) (n : Nat) : ∀ (p : Nat) (xs : List Int), p ≤ l.length → l.length < p + 2 * n → xs.length ≤ p → n ≤ 1000000 → Ev (fun k => quantLoop k l (p : Int) (n : Int) xs) (7, [], 0) := by
  induction n with
  | zero =>
    intro p xs hp hq hx hn1
    omega
  | succ n ih =>
    intro p xs hp hq hx hn1
    have e2 : wrap64 ((p : Int) + 2) = ((p + 2 : Nat) : Int) := by unfold wrap64; omega
    have e4 : wrap64 (((n + 1 : Nat) : Int) - 1) = (n : Int) := by unfold wrap64; omega
    refine Ev.step (fun k => quantLoop.eq_2 ..) (Ev.pos (by omega) (Ev.pos (by omega) ?_))
    rw [e2, e4]
    by_cases c1 : p + 2 ≤ l.length
    rotate_left
    · exact ev_rdn_bad (by omega) (ev_out l hl p 2 (by omega) (by omega) hp (by omega))
    refine ev_rdn (ev_in l hl p 2 (by omega) (by omega) c1) ?_
    exact ih (p + 2) _ c1 (by omega) (by simp; omega) (by omega)
/-- The number of steps. -/
def cntQ (l : List Int) : Nat := (l.getD 1 0).toNat
theorem cntQ_le {l : List Int} (hb : ∀ x ∈ l, (Lit.int .u8 x).wf = true) (h : 2 ≤ l.length) : cntQ l ≤ 255 ∧ l[1] = (cntQ l : Int) := by
  obtain ⟨b0, b1⟩ := wf_u8 (hb _ (List.getElem_mem (show 1 < l.length by omega)))
  unfold cntQ
  rw [getD_at 1 (by omega)]
  omega
theorem quantRead_ev {l : List Int} (hb : ∀ x ∈ l, (Lit.int .u8 x).wf = true) (hl : l.length ≤ 1000000) :
    Ev (fun k => quantRead k l) (if 2 ≤ l.length ∧ 2 + 2 * cntQ l ≤ l.length then (0, l.getD 0 0, stepsAt l 2 (cntQ l), ((2 + 2 * cntQ l : Nat) : Int)) else badQuant 7) := by
  unfold quantRead
  by_cases c0 : 1 ≤ l.length
  rotate_left
  · rw [if_neg (by omega)]; exact ev_rdn_bad (by omega) (ev_out l hl 0 1 (by omega) (by omega) (by omega) (by omega))
  have r0 := ev_in l hl 0 1 (by omega) (by omega) c0
  rw [num_one hb 0 (by omega)] at r0
  refine ev_rdn r0 ?_
  by_cases c1 : 2 ≤ l.length
  rotate_left
  · rw [if_neg (by omega)]; exact ev_rdn_bad (by omega) (ev_out l hl 1 1 (by omega) (by omega) (by omega) (by omega))
  have r := ev_in l hl 1 1 (by omega) (by omega) c1
  obtain ⟨hcn, h12⟩ := cntQ_le hb c1
  rw [num_one hb 1 (by omega), h12] at r
  refine ev_rdn r ?_
  by_cases c7 : 2 + 2 * cntQ l ≤ l.length
  · rw [if_pos ⟨c1, c7⟩, getD_at 0 (by omega)]
    have := quantLoop_in hl (cntQ l) 2 [] c7 (by simp)
    exact Ev.bind this (by simpa using Ev.now _)
  · rw [if_neg (by omega)]
    have := quantLoop_out hl (cntQ l) 2 [] c1 (by omega) (by simp) (by omega)
    exact Ev.bind this (by simpa using Ev.now (badQuant 7))
def zeroP (e : Int) : Int × Int × Int × Int × Int × List S89 × Int × Int × Bool × Bool × Bool × Bool × Bool × Bool × Bool × Bool × List Int × Int × Int × Int := (0, 0, 0, 0, 0, [], 0, 0, false, false, false, false, false, false, false, false, [], 0, 0, e)
def PQuantF (c : Int) (l : List Int) (p0 : Int) (p1 : Int) (p2 : Int) (p3 : Int) (p4 : Int) (t : List S89) (p6 : Int) (p7 : Int) (p8 : Bool) (p9 : Bool) (p10 : Bool) (p11 : Bool) (p12 : Bool) (p13 : Bool) (p14 : Bool) (p15 : Bool) (s : List Int) (dd : Int) (p18 : Int) : Int × Int × Int × Int × Int × List S89 × Int × Int × Bool × Bool × Bool × Bool × Bool × Bool × Bool × Bool × List Int × Int × Int × Int :=
  if c = 65443 then (if 2 ≤ l.length ∧ 2 + 2 * cntQ l ≤ l.length then (if 2 + 2 * cntQ l < l.length then zeroP 9 else (p0, p1, p2, p3, p4, t, p6, p7, p8, p9, p10, p11, p12, p13, p14, p15, stepsAt l 2 (cntQ l), l.getD 0 0, p18, 0)) else zeroP 7) else zeroP 11
theorem pquant_ev {l : List Int} (hb : ∀ x ∈ l, (Lit.int .u8 x).wf = true) (hl : l.length ≤ 1000000) (c : Int) (p0 : Int) (p1 : Int) (p2 : Int) (p3 : Int) (p4 : Int) (t : List S89) (p6 : Int) (p7 : Int) (p8 : Bool) (p9 : Bool) (p10 : Bool) (p11 : Bool) (p12 : Bool) (p13 : Bool) (p14 : Bool) (p15 : Bool) (s : List Int) (dd : Int) (p18 : Int) (hs : s.length ≤ 300) (ht : t.length ≤ 300) : Ev (fun k => headseg_ParseQuant.f k c l p0 p1 p2 p3 p4 t p6 p7 p8 p9 p10 p11 p12 p13 p14 p15 s dd p18) (PQuantF c l p0 p1 p2 p3 p4 t p6 p7 p8 p9 p10 p11 p12 p13 p14 p15 s dd p18) := by
  refine Ev.congr (fun k => headseg_ParseQuant.f.eq_1 ..) (Ev.bind (quantRead_ev hb hl) ?_)
  rw [if_pos (by omega), if_pos (by omega)]
  unfold PQuantF
  by_cases hc : c = 65443
  · rw [if_pos hc, if_pos hc]
    by_cases h1 : 2 ≤ l.length ∧ 2 + 2 * cntQ l ≤ l.length
    · rw [if_pos h1, if_pos h1, if_pos rfl]
      by_cases h2 : 2 + 2 * cntQ l < l.length
      · rw [if_pos h2, if_pos (show ((2 + 2 * cntQ l : Nat) : Int) < (l.length : Int) by omega)]
        exact Ev.now _
      · rw [if_neg h2, if_neg (show ¬ ((2 + 2 * cntQ l : Nat) : Int) < (l.length : Int) by omega)]
        exact Ev.now _
    · rw [if_neg h1, if_neg h1, if_neg (by simp [badQuant])]
      exact Ev.now _
  · rw [if_neg hc, if_neg hc]
    exact Ev.now _
def precAt (l : List Int) (p : Nat) : S89 := ⟨l.getD p 0 % 16, l.getD p 0 / 16⟩
def precsAt (l : List Int) : Nat → Nat → List S89
  | _, 0 => []
  | p, n + 1 => precAt l p :: precsAt l (p + 1) n
theorem precsAt_length (l : List Int) : ∀ n p, (precsAt l p n).length = n
  | 0, _ => rfl
  | n + 1, p => by simp [precsAt, precsAt_length l n]
theorem and15 : ∀ b : Fin 256, Go.bits .and .i64 ((b.val : Nat) : Int) 15 = ((b.val % 16 : Nat) : Int) := by decide +kernel
theorem and15' {x : Int} (h0 : 0 ≤ x) (h1 : x ≤ 255) : Go.bits .and .i64 x 15 = x % 16 := by
  have := and15 ⟨x.toNat, by omega⟩
  simp only [] at this
  rw [show ((x.toNat : Nat) : Int) = x by omega] at this
  rw [this]
  omega
theorem codLoop_in {l : List Int} (hb : ∀ x ∈ l, (Lit.int .u8 x).wf = true) (hl : l.length ≤ 1000000) (n : Nat) : ∀ (p : Nat) (xs : List S89), p + n ≤ l.length → xs.length ≤ p → Ev (fun k => codLoop k l (p : Int) (n : Int) xs) (0, xs ++ precsAt l p n, ((p + n : Nat) : Int)) := by
  induction n with
  | zero =>
    intro p xs hp hx
    refine Ev.step (fun k => codLoop.eq_2 ..) (Ev.neg (by omega) ?_)
    simpa [precsAt] using Ev.now ((0 : Int), xs, (p : Int))
  | succ n ih =>
    intro p xs hp hx
    have e2 : wrap64 ((p : Int) + 1) = ((p + 1 : Nat) : Int) := by unfold wrap64; omega
    have e4 : wrap64 (((n + 1 : Nat) : Int) - 1) = (n : Int) := by unfold wrap64; omega
    have r1 := ev_in l hl p 1 (by omega) (by omega) (by omega)
    rw [num_one hb p (by omega)] at r1
    obtain ⟨b0, b1⟩ := wf_u8 (hb _ (List.getElem_mem (show p < l.length by omega)))
    have hc : (⟨Go.bits .and .i64 l[p] 15, l[p] / 16⟩ : S89) = precAt l p := by
      unfold precAt
      rw [getD_at p (by omega), and15' b0 b1]
    have := ih (p + 1) (xs ++ [precAt l p]) (by omega) (by simp; omega)
    refine Ev.step (fun k => codLoop.eq_2 ..) (Ev.pos (by omega) (Ev.pos (by omega) (ev_rdn r1 ?_)))
    rw [e2, e4, hc]
    simpa [precsAt, show p + 1 + n = p + (n + 1) by omega] using this
theorem codLoop_out {l : List Int} (hl : l.length ≤ 1000000) (n : Nat) : ∀ (p : Nat) (xs : List S89), p ≤ l.length → l.length < p + n → xs.length ≤ p → n ≤ 1000000 → Ev (fun k => codLoop k l (p : Int) (n : Int) xs) (7, [], 0) := by
  induction n with
  | zero =>
    intro p xs hp hq hx hn1
    omega
  | succ n ih =>
    intro p xs hp hq hx hn1
    have e2 : wrap64 ((p : Int) + 1) = ((p + 1 : Nat) : Int) := by unfold wrap64; omega
    have e4 : wrap64 (((n + 1 : Nat) : Int) - 1) = (n : Int) := by unfold wrap64; omega
    refine Ev.step (fun k => codLoop.eq_2 ..) (Ev.pos (by omega) (Ev.pos (by omega) ?_))
    rw [e2, e4]
    by_cases c1 : p + 1 ≤ l.length
    rotate_left
    · exact ev_rdn_bad (by omega) (ev_out l hl p 1 (by omega) (by omega) hp (by omega))
    refine ev_rdn (ev_in l hl p 1 (by omega) (by omega) c1) ?_
    exact ih (p + 1) _ c1 (by omega) (by simp; omega) (by omega)
def cntC (l : List Int) : Nat := (l.getD 9 0).toNat
theorem cntC_le {l : List Int} (hb : ∀ x ∈ l, (Lit.int .u8 x).wf = true) (h : 10 ≤ l.length) : cntC l ≤ 255 ∧ l[9] = (cntC l : Int) := by
  obtain ⟨b0, b1⟩ := wf_u8 (hb _ (List.getElem_mem (show 9 < l.length by omega)))
  unfold cntC
  rw [getD_at 9 (by omega)]
  omega
theorem codRead_ev {l : List Int} (hb : ∀ x ∈ l, (Lit.int .u8 x).wf = true) (hl : l.length ≤ 1000000) :
    Ev (fun k => codRead k l) (if 10 ≤ l.length ∧ 10 + cntC l ≤ l.length then ⟨0, l.getD 0 0, l.getD 1 0, l.getD 2 0, l.getD 3 0, l.getD 4 0, l.getD 5 0, l.getD 6 0, l.getD 7 0, l.getD 8 0, precsAt l 10 (cntC l), ((10 + cntC l : Nat) : Int)⟩ else badCod 7) := by
  unfold codRead
  by_cases c0 : 1 ≤ l.length
  rotate_left
  · rw [if_neg (by omega)]; exact ev_rdn_bad (by omega) (ev_out l hl 0 1 (by omega) (by omega) (by omega) (by omega))
  have r0 := ev_in l hl 0 1 (by omega) (by omega) c0
  rw [num_one hb 0 (by omega)] at r0
  refine ev_rdn r0 ?_
  by_cases c1 : 2 ≤ l.length
  rotate_left
  · rw [if_neg (by omega)]; exact ev_rdn_bad (by omega) (ev_out l hl 1 1 (by omega) (by omega) (by omega) (by omega))
  have r1 := ev_in l hl 1 1 (by omega) (by omega) c1
  rw [num_one hb 1 (by omega)] at r1
  refine ev_rdn r1 ?_
  by_cases c2 : 3 ≤ l.length
  rotate_left
  · rw [if_neg (by omega)]; exact ev_rdn_bad (by omega) (ev_out l hl 2 1 (by omega) (by omega) (by omega) (by omega))
  have r2 := ev_in l hl 2 1 (by omega) (by omega) c2
  rw [num_one hb 2 (by omega)] at r2
  refine ev_rdn r2 ?_
  by_cases c3 : 4 ≤ l.length
  rotate_left
  · rw [if_neg (by omega)]; exact ev_rdn_bad (by omega) (ev_out l hl 3 1 (by omega) (by omega) (by omega) (by omega))
  have r3 := ev_in l hl 3 1 (by omega) (by omega) c3
  rw [num_one hb 3 (by omega)] at r3
  refine ev_rdn r3 ?_
  by_cases c4 : 5 ≤ l.length
  rotate_left
  · rw [if_neg (by omega)]; exact ev_rdn_bad (by omega) (ev_out l hl 4 1 (by omega) (by omega) (by omega) (by omega))
  have r4 := ev_in l hl 4 1 (by omega) (by omega) c4
  rw [num_one hb 4 (by omega)] at r4
  refine ev_rdn r4 ?_
  by_cases c5 : 6 ≤ l.length
  rotate_left
  · rw [if_neg (by omega)]; exact ev_rdn_bad (by omega) (ev_out l hl 5 1 (by omega) (by omega) (by omega) (by omega))
  have r5 := ev_in l hl 5 1 (by omega) (by omega) c5
  rw [num_one hb 5 (by omega)] at r5
  refine ev_rdn r5 ?_
  by_cases c6 : 7 ≤ l.length
  rotate_left
  · rw [if_neg (by omega)]; exact ev_rdn_bad (by omega) (ev_out l hl 6 1 (by omega) (by omega) (by omega) (by omega))
  have r6 := ev_in l hl 6 1 (by omega) (by omega) c6
  rw [num_one hb 6 (by omega)] at r6
  refine ev_rdn r6 ?_
  by_cases c7 : 8 ≤ l.length
  rotate_left
  · rw [if_neg (by omega)]; exact ev_rdn_bad (by omega) (ev_out l hl 7 1 (by omega) (by omega) (by omega) (by omega))
  have r7 := ev_in l hl 7 1 (by omega) (by omega) c7
  rw [num_one hb 7 (by omega)] at r7
  refine ev_rdn r7 ?_
  by_cases c8 : 9 ≤ l.length
  rotate_left
  · rw [if_neg (by omega)]; exact ev_rdn_bad (by omega) (ev_out l hl 8 1 (by omega) (by omega) (by omega) (by omega))
  have r8 := ev_in l hl 8 1 (by omega) (by omega) c8
  rw [num_one hb 8 (by omega)] at r8
  refine ev_rdn r8 ?_
  by_cases c9 : 10 ≤ l.length
  rotate_left
  · rw [if_neg (by omega)]; exact ev_rdn_bad (by omega) (ev_out l hl 9 1 (by omega) (by omega) (by omega) (by omega))
  have r9 := ev_in l hl 9 1 (by omega) (by omega) c9
  rw [num_one hb 9 (by omega)] at r9
  obtain ⟨hcn, h12⟩ := cntC_le hb c9
  rw [h12] at r9
  refine ev_rdn r9 ?_
  by_cases c10 : 10 + cntC l ≤ l.length
  · rw [if_pos ⟨c9, c10⟩, getD_at 0 (by omega), getD_at 1 (by omega), getD_at 2 (by omega), getD_at 3 (by omega), getD_at 4 (by omega), getD_at 5 (by omega), getD_at 6 (by omega), getD_at 7 (by omega), getD_at 8 (by omega)]
    have := codLoop_in hb hl (cntC l) 10 [] c10 (by simp)
    exact Ev.bind this (by simpa using Ev.now _)
  · rw [if_neg (by omega)]
    have := codLoop_out hl (cntC l) 10 [] c9 (by omega) (by simp) (by omega)
    exact Ev.bind this (by simpa using Ev.now (badCod 7))
def PCodF (c : Int) (l : List Int) : Int × Int × Int × Int × Int × List S89 × Int × Int × Bool × Bool × Bool × Bool × Bool × Bool × Bool × Bool × List Int × Int × Int × Int :=
  if c = 65442 then (if 10 ≤ l.length ∧ 10 + cntC l ≤ l.length then (if 10 + cntC l < l.length then zeroP 9 else (l.getD 0 0, l.getD 1 0, l.getD 2 0, l.getD 3 0, l.getD 4 0, precsAt l 10 (cntC l), l.getD 5 0, l.getD 6 0, flag (l.getD 7 0) 0, flag (l.getD 7 0) 1, flag (l.getD 7 0) 2, flag (l.getD 7 0) 3, flag (l.getD 7 0) 4, flag (l.getD 7 0) 5, flag (l.getD 7 0) 6, flag (l.getD 7 0) 7, [], 0, l.getD 8 0, 0)) else zeroP 7) else zeroP 11
theorem pcod_ev {l : List Int} (hb : ∀ x ∈ l, (Lit.int .u8 x).wf = true) (hl : l.length ≤ 1000000) (c : Int) : Ev (fun k => headseg_ParseCoding.f k c l) (PCodF c l) := by
  refine Ev.congr (fun k => headseg_ParseCoding.f.eq_1 ..) (Ev.bind (codRead_ev hb hl) ?_)
  unfold PCodF
  by_cases hc : c = 65442
  · rw [if_pos hc, if_pos hc]
    by_cases h1 : 10 ≤ l.length ∧ 10 + cntC l ≤ l.length
    · rw [if_pos h1, if_pos h1]
      simp only [if_true]
      by_cases h2 : 10 + cntC l < l.length
      · rw [if_pos h2, if_pos (show ((10 + cntC l : Nat) : Int) < (l.length : Int) by omega)]
        exact Ev.now _
      · rw [if_neg h2, if_neg (show ¬ ((10 + cntC l : Nat) : Int) < (l.length : Int) by omega)]
        exact Ev.now _
    · rw [if_neg h1, if_neg h1, if_neg (by simp [badCod])]
      exact Ev.now _
  · rw [if_neg hc, if_neg hc]
    exact Ev.now _
theorem byte_of {x : Int} (h0 : 0 ≤ x) (h1 : x ≤ 255) : ∃ b : Fin 256, x = ((b.val : Nat) : Int) := ⟨⟨x.toNat, by omega⟩, by simp only []; omega⟩
/-- What Tile returns. -/
def TileF (t p q s : Int) : Int × List Int × Int :=
  if (0 ≤ t ∧ t ≤ 65535) ∧ (0 ≤ p ∧ p ≤ 255) ∧ (0 ≤ q ∧ q ≤ 255) ∧ (0 ≤ s ∧ s ≤ 4294967295) then (65456, be t 2 ++ [p % 256, q % 256] ++ be s 4, 0) else (0, [], 2)
theorem inside_one (lo hi a : Int) : inside lo hi [a] = (decide (lo ≤ a) && decide (a ≤ hi)) := by simp [inside]
theorem inside_two (lo hi a b : Int) : inside lo hi [a, b] = ((decide (lo ≤ a) && decide (a ≤ hi)) && (decide (lo ≤ b) && decide (b ≤ hi))) := by simp [inside]
theorem tile_eq (t p q s : Int) (k : Nat) : headseg_Tile.f (k + 20) t p q s = some (TileF t p q s) := by
  have hw1 := within_eq 0 65535 [t] (by simp) (k + 18)
  have hw2 := within_eq 0 255 [p, q] (by simp) (k + 17)
  have hw3 := within_eq 0 4294967295 [s] (by simp) (k + 18)
  simp only [List.length_cons, List.length_nil] at hw1 hw2 hw3
  have hj : headseg_Tile.j0 (k + 20) t p q s true = some (0, [], 2) := by rw [show k + 20 = (k + 19) + 1 from rfl, headseg_Tile.j0, if_pos rfl]
  unfold headseg_Tile.f TileF
  rw [show k + 20 = k + 18 + (0 + 1) + 1 from rfl, hw1, show k + 18 + (0 + 1) + 1 = k + 17 + (0 + 1 + 1) + 1 from rfl, hw2, show k + 17 + (0 + 1 + 1) + 1 = k + 18 + (0 + 1) + 1 from rfl, hw3, show k + 18 + (0 + 1) + 1 = k + 20 from rfl]
  simp only [Option.bind_some, inside_one, inside_two, hj]
  by_cases h1 : 0 ≤ t ∧ t ≤ 65535
  rotate_left
  · rw [if_neg (by simp; omega), if_neg (fun h => h1 h.1)]
  rw [if_pos (by simp; omega)]
  by_cases h2 : (0 ≤ p ∧ p ≤ 255) ∧ (0 ≤ q ∧ q ≤ 255)
  rotate_left
  · rw [if_neg (by simp; omega), if_neg (fun h => h2 ⟨h.2.1, h.2.2.1⟩)]
  rw [if_pos (by simp; omega)]
  by_cases h3 : 0 ≤ s ∧ s ≤ 4294967295
  rotate_left
  · rw [show (!(decide (0 ≤ s) && decide (s ≤ 4294967295))) = true by simp; omega, hj, if_neg (fun h => h3 h.2.2.2)]
  rw [show (!(decide (0 ≤ s) && decide (s ≤ 4294967295))) = false by simp; omega, if_pos ⟨h1, h2.1, h2.2, h3⟩, show k + 20 = (k + 19) + 1 from rfl, headseg_Tile.j0, if_neg (by simp)]
  have hp1 := put_eq [] t 2 (by omega) (by simp) (k + 10)
  have hp2 := put_eq (be t 2 ++ [p % 256, q % 256]) s 4 (by omega) (by simp [be_length]) (k + 10)
  rw [show ((2 : Nat) : Int) = 2 from rfl] at hp1
  rw [show ((4 : Nat) : Int) = 4 from rfl] at hp2
  rw [hp1]
  simp only [Option.bind_some, List.nil_append]
  rw [if_pos (by simp [be_length]), hp2]
  rfl
theorem TileF_length (t p q s : Int) : (TileF t p q s).2.1.length ≤ 8 := by
  unfold TileF
  split
  · simp [be_length]
  · simp
/-- What ParseTile returns. -/
def PTile (c : Int) (l : List Int) : Int × Int × Int × Int × Int :=
  if c = 65456 then (if l.length < 8 then (0, 0, 0, 0, 7) else if 8 < l.length then (0, 0, 0, 0, 9) else (num (sub l 0 2), num (sub l 2 1), num (sub l 3 1), num (sub l 4 4), 0)) else (0, 0, 0, 0, 11)
theorem tileRead_eq (l : List Int) (hl : l.length ≤ 1000000) (k : Nat) : ∃ t, tileRead (k + 6) l = some t ∧ (if 8 ≤ l.length then t = (0, num (sub l 0 2), num (sub l 2 1), num (sub l 3 1), num (sub l 4 4)) else t.1 = 7) := by
  have h0 := ru_eq l 0 2 hl (by omega) k
  have h1 := ru_eq l 2 1 hl (by omega) k
  have h2 := ru_eq l 3 1 hl (by omega) k
  have h3 := ru_eq l 4 4 hl (by omega) k
  unfold tileRead
  rw [h0, h1, h2, h3]
  simp only [Option.bind_some]
  by_cases c0 : 2 ≤ l.length
  rotate_left
  · rw [show RU l 0 2 = (0, 7) from RU_out l 0 2 (by omega) (by omega) (by omega) (by omega), if_neg (by simp)]
    exact ⟨_, rfl, by rw [if_neg (by omega)]⟩
  rw [show RU l 0 2 = _ from RU_in l 0 2 (by omega) (by omega) (by omega), if_pos rfl]
  by_cases c1 : 3 ≤ l.length
  rotate_left
  · rw [show RU l 2 1 = (0, 7) from RU_out l 2 1 (by omega) (by omega) (by omega) (by omega), if_neg (by simp)]
    exact ⟨_, rfl, by rw [if_neg (by omega)]⟩
  rw [show RU l 2 1 = _ from RU_in l 2 1 (by omega) (by omega) (by omega), if_pos rfl]
  by_cases c2 : 4 ≤ l.length
  rotate_left
  · rw [show RU l 3 1 = (0, 7) from RU_out l 3 1 (by omega) (by omega) (by omega) (by omega), if_neg (by simp)]
    exact ⟨_, rfl, by rw [if_neg (by omega)]⟩
  rw [show RU l 3 1 = _ from RU_in l 3 1 (by omega) (by omega) (by omega), if_pos rfl]
  by_cases c3 : 8 ≤ l.length
  rotate_left
  · rw [show RU l 4 4 = (0, 7) from RU_out l 4 4 (by omega) (by omega) (by omega) (by omega), if_neg (by simp)]
    exact ⟨_, rfl, by rw [if_neg (by omega)]⟩
  rw [show RU l 4 4 = _ from RU_in l 4 4 (by omega) (by omega) (by omega), if_pos rfl]
  exact ⟨_, rfl, by rw [if_pos c3]⟩
theorem ptile_eq (c : Int) (l : List Int) (hl : l.length ≤ 1000000) (k : Nat) : headseg_ParseTile.f (k + 6) c l = some (PTile c l) := by
  obtain ⟨t, ht, h⟩ := tileRead_eq l hl k
  unfold headseg_ParseTile.f PTile
  rw [ht]
  simp only [Option.bind_some, Option.some.injEq]
  by_cases hc : c = 65456
  · rw [if_pos hc, if_pos hc]
    by_cases h8 : 8 ≤ l.length
    · rw [if_pos h8] at h
      subst h
      rw [if_pos rfl, if_neg (show ¬ l.length < 8 by omega)]
      by_cases h9 : 8 < l.length
      · rw [if_pos (by omega), if_pos h9]
      · rw [if_neg (by omega), if_neg h9]
    · rw [if_neg h8] at h
      rw [if_neg (by omega), if_pos (by omega), h]
  · rw [if_neg hc, if_neg hc]
end Go.Proofs.Ytihfopblmjgfaaa.Pure

/- What is written is read back. Printed by wip/tools/genPureRest.py of this session. -/
namespace Go.Proofs.Ytihfopblmjgfaaa.Pure
open Go.RowKit Go.Proofs.Ytihfopblmjgfaaa.Q Go.Proofs.YtihfopblmjgfaaaW.PrintWords
set_option linter.unusedVariables false
set_option maxRecDepth 100000
def BY (l : List Int) : Prop := ∀ x ∈ l, (Lit.int .u8 x).wf = true
theorem wf_of {x : Int} (h0 : 0 ≤ x) (h1 : x ≤ 255) : (Lit.int .u8 x).wf = true := by
  simp [Lit.wf, IntKind.min, IntKind.max, IntKind.signed, IntKind.bits]
  omega
theorem wf_mod (x : Int) : (Lit.int .u8 (x % 256)).wf = true := wf_of (by omega) (by omega)
theorem BY_nil : BY [] := by simp [BY]
theorem BY_cons {x : Int} {l : List Int} (h : BY l) : BY (x % 256 :: l) := fun y hy => by
  rcases List.mem_cons.1 hy with rfl | hy
  · exact wf_mod x
  · exact h y hy
theorem BY_app {a b : List Int} (ha : BY a) (hb : BY b) : BY (a ++ b) := fun x hx => by
  rcases List.mem_append.1 hx with h | h
  · exact ha x h
  · exact hb x h
theorem BY_be (v : Int) : ∀ n, BY (be v n)
  | 0 => BY_nil
  | n + 1 => BY_cons (BY_be v n)
theorem BY_enc1 : ∀ l, BY (enc1 l)
  | [] => BY_nil
  | v :: l => BY_cons (BY_enc1 l)
theorem BY_encP : ∀ l, BY (encP l)
  | [] => BY_nil
  | v :: l => BY_cons (BY_encP l)
theorem BY_encS : ∀ l, BY (encS l)
  | [] => BY_nil
  | v :: l => BY_app (BY_be _ 2) (BY_encS l)
theorem BY_enc2 : ∀ l, BY (enc2 l)
  | [] => BY_nil
  | v :: l => BY_app (BY_be _ 2) (BY_enc2 l)
theorem BY_encCs : ∀ l, BY (encCs l)
  | [] => BY_nil
  | c :: l => BY_app (BY_cons (BY_cons (BY_cons BY_nil))) (BY_encCs l)
theorem num2 {v : Int} (h0 : 0 ≤ v) (h1 : v ≤ 65535) : num [v / 256 % 256, v % 256] = v := by
  simp only [num, List.foldl]
  rw [step_eq (v := 0) (by omega) (by omega) (by omega) (by omega), step_eq (by omega) (by omega) (by omega) (by omega)]
  omega
theorem num1 {v : Int} (h0 : 0 ≤ v) (h1 : v ≤ 255) : num [v % 256] = v := by
  simp only [num, List.foldl]
  rw [step_eq (v := 0) (by omega) (by omega) (by omega) (by omega)]
  omega
theorem num4 {v : Int} (h0 : 0 ≤ v) (h1 : v ≤ 4294967295) : num [v / 16777216 % 256, v / 65536 % 256, v / 256 % 256, v % 256] = v := by
  simp only [num, List.foldl]
  have s1 : step 0 (v / 16777216 % 256) = v / 16777216 % 256 := by rw [step_eq (by omega) (by omega) (by omega) (by omega)]; omega
  have s2 : step (v / 16777216 % 256) (v / 65536 % 256) = v / 65536 := by rw [step_eq (by omega) (by omega) (by omega) (by omega)]; omega
  have s3 : step (v / 65536) (v / 256 % 256) = v / 256 := by rw [step_eq (by omega) (by omega) (by omega) (by omega)]; omega
  have s4 : step (v / 256) (v % 256) = v := by rw [step_eq (by omega) (by omega) (by omega) (by omega)]; omega
  rw [s1, s2, s3, s4]
theorem getD_pre (pre rest : List Int) (x : Int) : (pre ++ x :: rest).getD pre.length 0 = x := by simp [List.getD_eq_getElem?_getD]
theorem sub_pre (pre u rest : List Int) (n : Nat) (hn : u.length = n) : sub (pre ++ (u ++ rest)) pre.length n = u := by
  subst hn
  unfold sub
  rw [List.drop_take, List.drop_left, Nat.add_sub_cancel_left, List.take_left]
def mkc (b x y : Int) : S97 := ⟨b % 128 + 1, decide (b ≥ 128), x, y⟩
theorem compAt_mk (l : List Int) (p : Nat) : compAt l p = mkc (l.getD p 0) (l.getD (p + 1) 0) (l.getD (p + 2) 0) := rfl
theorem comp_back (c : S97) (h : compOK c) (pre rest : List Int) : compAt (pre ++ (encC c ++ rest)) pre.length = c := by
  obtain ⟨h0, h2, h3⟩ := h
  have g0 := getD_pre pre (c.f2 % 256 :: c.f3 % 256 :: rest) ((if c.f1 = true then wrap64 (wrap64 (c.f0 - 1) + 128) else wrap64 (c.f0 - 1)) % 256)
  have g1 := getD_pre (pre ++ [(if c.f1 = true then wrap64 (wrap64 (c.f0 - 1) + 128) else wrap64 (c.f0 - 1)) % 256]) (c.f3 % 256 :: rest) (c.f2 % 256)
  have g2 := getD_pre (pre ++ [(if c.f1 = true then wrap64 (wrap64 (c.f0 - 1) + 128) else wrap64 (c.f0 - 1)) % 256, c.f2 % 256]) rest (c.f3 % 256)
  simp only [List.append_assoc, List.cons_append, List.nil_append, List.length_append, List.length_cons, List.length_nil] at g1 g2
  rw [compAt_mk]
  unfold encC
  simp only [List.cons_append, List.nil_append]
  rw [g0, show pre.length + 1 = pre.length + (0 + 1) from rfl, g1, show pre.length + 2 = pre.length + (0 + 1 + 1) from rfl, g2]
  unfold mkc
  have hw : wrap64 (c.f0 - 1) = c.f0 - 1 := by unfold wrap64; omega
  obtain ⟨f0, f1, f2, f3⟩ := c
  simp only at *
  rw [hw]
  cases f1 with
  | true =>
    simp only [if_true]
    rw [show wrap64 (f0 - 1 + 128) = f0 + 127 by unfold wrap64; omega]
    have e1 : (f0 + 127) % 256 % 128 + 1 = f0 := by omega
    have e2 : decide ((f0 + 127) % 256 ≥ 128) = true := decide_eq_true (by omega)
    rw [e1, e2, show f2 % 256 = f2 by omega, show f3 % 256 = f3 by omega]
  | false =>
    simp only [Bool.false_eq_true, if_false]
    have e1 : (f0 - 1) % 256 % 128 + 1 = f0 := by omega
    have e2 : decide ((f0 - 1) % 256 ≥ 128) = false := decide_eq_false (by omega)
    rw [e1, e2, show f2 % 256 = f2 by omega, show f3 % 256 = f3 by omega]
theorem comps_back : ∀ (l : List S97) (pre : List Int), (∀ c ∈ l, compOK c) → compsAt (pre ++ encCs l) pre.length l.length = l
  | [], _, _ => rfl
  | c :: l, pre, h => by
    have ih := comps_back l (pre ++ encC c) (fun x hx => h x (List.mem_cons_of_mem _ hx))
    rw [List.append_assoc, List.length_append, show (encC c).length = 3 from rfl] at ih
    rw [encCs, List.length_cons, compsAt, comp_back c (h c (List.mem_cons_self ..)) pre _, ih]
theorem sizeB_cons (a b c d tw th : Int) (l : List S97) : SizeB a b c d tw th l = [a / 256 % 256, a % 256, b / 256 % 256, b % 256, c / 256 % 256, c % 256, d / 256 % 256, d % 256, tw / 256 % 256, tw % 256, th / 256 % 256, th % 256, (l.length : Int) % 256] ++ encCs l := by simp [SizeB, enc2, be]
theorem BY_SizeB (a b c d tw th : Int) (l : List S97) : BY (SizeB a b c d tw th l) := BY_app (BY_app (BY_enc2 _) (BY_be _ 1)) (BY_encCs l)
theorem size_back {a b c d tw th : Int} {l : List S97} (h : hdrOK a b c d tw th l) : (SizeB a b c d tw th l).length = 13 + 3 * l.length ∧ head6 (SizeB a b c d tw th l) = (a, b, c, d, tw, th) ∧ cnt (SizeB a b c d tw th l) = l.length ∧ compsAt (SizeB a b c d tw th l) 13 l.length = l := by
  obtain ⟨⟨ha, hb, hc, hd⟩, ⟨h1, h2⟩, h4, hl⟩ := h
  rw [sizeB_cons]
  refine ⟨by simp [encCs_length]; omega, ?_, ?_, ?_⟩
  · show (num [a / 256 % 256, a % 256], num [b / 256 % 256, b % 256], num [c / 256 % 256, c % 256], num [d / 256 % 256, d % 256], num [tw / 256 % 256, tw % 256], num [th / 256 % 256, th % 256]) = _
    rw [num2 (by omega) (by omega), num2 (by omega) (by omega), num2 (by omega) (by omega), num2 (by omega) (by omega), num2 (by omega) (by omega), num2 (by omega) (by omega)]
  · show ((l.length : Int) % 256).toNat = _
    omega
  · exact comps_back l [a / 256 % 256, a % 256, b / 256 % 256, b % 256, c / 256 % 256, c % 256, d / 256 % 256, d % 256, tw / 256 % 256, tw % 256, th / 256 % 256, th % 256, (l.length : Int) % 256] hl
theorem psize_back {a b c d tw th : Int} {l : List S97} (h : hdrOK a b c d tw th l) (hv : Ev (fun k => params_Header.f k a b c d tw th l) 0) : Ev (fun k => headseg_ParseSize.f k 65441 (SizeB a b c d tw th l)) (a, b, c, d, tw, th, l, 0) := by
  obtain ⟨e1, e2, e3, e4⟩ := size_back h
  have h4 := h.2.2.1
  have := psize_ev (l := SizeB a b c d tw th l) (BY_SizeB a b c d tw th l) (by omega) 65441 (r := 0) (by rw [e2, e3, e4]; exact hv)
  rw [show PSizeF 0 65441 (SizeB a b c d tw th l) = (a, b, c, d, tw, th, l, 0) by
    unfold PSizeF
    rw [if_pos rfl, e2, e3, e4, if_pos (by omega), if_neg (by omega), if_pos rfl]] at this
  exact this
theorem steps_back : ∀ (l : List Int) (pre : List Int), (∀ x ∈ l, 1 ≤ x ∧ x ≤ 65536) → stepsAt (pre ++ encS l) pre.length l.length = l
  | [], _, _ => rfl
  | x :: l, pre, h => by
    have ih := steps_back l (pre ++ be (wrap64 (x - 1)) 2) (fun y hy => h y (List.mem_cons_of_mem _ hy))
    rw [List.append_assoc, List.length_append, be_length] at ih
    have hx := h x (List.mem_cons_self ..)
    rw [encS, List.length_cons, stepsAt, sub_pre pre _ _ 2 (be_length _ 2), ih]
    rw [show be (wrap64 (x - 1)) 2 = [wrap64 (x - 1) / 256 % 256, wrap64 (x - 1) % 256] by simp [be], show wrap64 (x - 1) = x - 1 by unfold wrap64; omega, num2 (by omega) (by omega), show wrap64 (x - 1 + 1) = x by unfold wrap64; omega]
theorem inside_all {lo hi : Int} {l : List Int} (h : inside lo hi l = true) : ∀ x ∈ l, lo ≤ x ∧ x ≤ hi := fun x hx => by
  have := List.all_eq_true.1 h x hx
  simpa using this
def quantB (dd : Int) (s : List Int) : List Int := be dd 1 ++ be (s.length : Int) 1 ++ encS s
theorem quant_back (p0 : Int) (p1 : Int) (p2 : Int) (p3 : Int) (p4 : Int) (t : List S89) (p6 : Int) (p7 : Int) (b0 : Bool) (b1 : Bool) (b2 : Bool) (b3 : Bool) (b4 : Bool) (b5 : Bool) (b6 : Bool) (b7 : Bool) (s : List Int) (dd : Int) (p18 : Int) (z : List Int) (zd : Int) (hd : 0 ≤ dd ∧ dd ≤ 255) (hs : s.length ≤ 255) (hin : inside 1 65536 s = true) : PQuantF 65443 (quantB dd s) p0 p1 p2 p3 p4 t p6 p7 b0 b1 b2 b3 b4 b5 b6 b7 z zd p18 = (p0, p1, p2, p3, p4, t, p6, p7, b0, b1, b2, b3, b4, b5, b6, b7, s, dd, p18, 0) := by
  have e : quantB dd s = [dd % 256, (s.length : Int) % 256] ++ encS s := by simp [quantB, be]
  have hl : (quantB dd s).length = 2 + 2 * s.length := by rw [e]; simp [encS_length]; omega
  have hc : cntQ (quantB dd s) = s.length := by rw [e]; show ((s.length : Int) % 256).toNat = _; omega
  have hst : stepsAt (quantB dd s) 2 s.length = s := by rw [e]; exact steps_back s [dd % 256, (s.length : Int) % 256] (inside_all hin)
  have h0 : (quantB dd s).getD 0 0 = dd := by rw [e]; show dd % 256 = dd; omega
  unfold PQuantF
  rw [if_pos rfl, hc, hst, h0, if_pos (by omega), if_neg (by omega)]
theorem BY_quantB (dd : Int) (s : List Int) : BY (quantB dd s) := BY_app (BY_app (BY_be _ 1) (BY_be _ 1)) (BY_encS s)
theorem precOK_cons {q : S89} {t : List S89} (h : precOK (q :: t) = true) : (0 ≤ q.f0 ∧ q.f0 ≤ 15) ∧ (0 ≤ q.f1 ∧ q.f1 ≤ 15) ∧ precOK t = true := by
  simp only [precOK, Bool.and_eq_true, decide_eq_true_eq] at h
  exact ⟨h.1.1, h.1.2, h.2⟩
theorem precs_back : ∀ (t : List S89) (pre : List Int), precOK t = true → precsAt (pre ++ encP t) pre.length t.length = t
  | [], _, _ => rfl
  | q :: t, pre, h => by
    obtain ⟨h0, h1, h⟩ := precOK_cons h
    have ih := precs_back t (pre ++ [wrap64 (q.f0 + wrap64 (16 * q.f1)) % 256]) h
    rw [List.append_assoc, List.length_append] at ih
    simp only [List.cons_append, List.nil_append, List.length_cons, List.length_nil, Nat.zero_add] at ih
    have g := getD_pre pre (encP t) (wrap64 (q.f0 + wrap64 (16 * q.f1)) % 256)
    rw [encP, List.length_cons, precsAt, ih, precAt, g]
    have e : wrap64 (q.f0 + wrap64 (16 * q.f1)) % 256 = q.f0 + 16 * q.f1 := by unfold wrap64; omega
    rw [e, show (q.f0 + 16 * q.f1) % 16 = q.f0 by omega, show (q.f0 + 16 * q.f1) / 16 = q.f1 by omega]
theorem flag_part : ∀ b0 b1 b2 b3 b4 b5 b6 b7 : Bool, flag (part [b0, b1, b2, b3, b4, b5, b6, b7] 8) 0 = b0 ∧ flag (part [b0, b1, b2, b3, b4, b5, b6, b7] 8) 1 = b1 ∧ flag (part [b0, b1, b2, b3, b4, b5, b6, b7] 8) 2 = b2 ∧ flag (part [b0, b1, b2, b3, b4, b5, b6, b7] 8) 3 = b3 ∧ flag (part [b0, b1, b2, b3, b4, b5, b6, b7] 8) 4 = b4 ∧ flag (part [b0, b1, b2, b3, b4, b5, b6, b7] 8) 5 = b5 ∧ flag (part [b0, b1, b2, b3, b4, b5, b6, b7] 8) 6 = b6 ∧ flag (part [b0, b1, b2, b3, b4, b5, b6, b7] 8) 7 = b7 := by decide +kernel
def codB (p0 : Int) (p1 : Int) (p2 : Int) (p3 : Int) (p4 : Int) (t : List S89) (p6 : Int) (p7 : Int) (b0 : Bool) (b1 : Bool) (b2 : Bool) (b3 : Bool) (b4 : Bool) (b5 : Bool) (b6 : Bool) (b7 : Bool) (s : List Int) (dd : Int) (p18 : Int) : List Int := enc1 (codL p0 p1 p2 p3 p4 t p6 p7 b0 b1 b2 b3 b4 b5 b6 b7 s dd p18) ++ encP t
theorem BY_codB (p0 : Int) (p1 : Int) (p2 : Int) (p3 : Int) (p4 : Int) (t : List S89) (p6 : Int) (p7 : Int) (b0 : Bool) (b1 : Bool) (b2 : Bool) (b3 : Bool) (b4 : Bool) (b5 : Bool) (b6 : Bool) (b7 : Bool) (s : List Int) (dd : Int) (p18 : Int) : BY (codB p0 p1 p2 p3 p4 t p6 p7 b0 b1 b2 b3 b4 b5 b6 b7 s dd p18) := BY_app (BY_enc1 _) (BY_encP t)
theorem cod_back (p0 : Int) (p1 : Int) (p2 : Int) (p3 : Int) (p4 : Int) (t : List S89) (p6 : Int) (p7 : Int) (b0 : Bool) (b1 : Bool) (b2 : Bool) (b3 : Bool) (b4 : Bool) (b5 : Bool) (b6 : Bool) (b7 : Bool) (s : List Int) (dd : Int) (p18 : Int) (hin : inside 0 255 (codL p0 p1 p2 p3 p4 t p6 p7 b0 b1 b2 b3 b4 b5 b6 b7 s dd p18) = true) (ht : precOK t = true) : PCodF 65442 (codB p0 p1 p2 p3 p4 t p6 p7 b0 b1 b2 b3 b4 b5 b6 b7 s dd p18) = (p0, p1, p2, p3, p4, t, p6, p7, b0, b1, b2, b3, b4, b5, b6, b7, [], 0, p18, 0) := by
  have hb := inside_all hin
  simp only [codL, List.mem_cons, List.not_mem_nil, or_false, forall_eq_or_imp, forall_eq] at hb
  obtain ⟨h0, h1, h2, h3, h4, h5, h6, h7, h8, h9⟩ := hb
  have e : codB p0 p1 p2 p3 p4 t p6 p7 b0 b1 b2 b3 b4 b5 b6 b7 s dd p18 = [p0 % 256, p1 % 256, p2 % 256, p3 % 256, p4 % 256, p6 % 256, p7 % 256, part [b0, b1, b2, b3, b4, b5, b6, b7] 8 % 256, p18 % 256, (t.length : Int) % 256] ++ encP t := by simp only [codB, codL, enc1]
  have hl : (codB p0 p1 p2 p3 p4 t p6 p7 b0 b1 b2 b3 b4 b5 b6 b7 s dd p18).length = 10 + t.length := by rw [e]; simp [encP_length]; omega
  have hc : cntC (codB p0 p1 p2 p3 p4 t p6 p7 b0 b1 b2 b3 b4 b5 b6 b7 s dd p18) = t.length := by rw [e]; show ((t.length : Int) % 256).toNat = _; omega
  have hp : precsAt (codB p0 p1 p2 p3 p4 t p6 p7 b0 b1 b2 b3 b4 b5 b6 b7 s dd p18) 10 t.length = t := by rw [e]; exact precs_back t [p0 % 256, p1 % 256, p2 % 256, p3 % 256, p4 % 256, p6 % 256, p7 % 256, part [b0, b1, b2, b3, b4, b5, b6, b7] 8 % 256, p18 % 256, (t.length : Int) % 256] ht
  have g0 : (codB p0 p1 p2 p3 p4 t p6 p7 b0 b1 b2 b3 b4 b5 b6 b7 s dd p18).getD 0 0 = p0 := by rw [e]; show p0 % 256 = p0; omega
  have g1 : (codB p0 p1 p2 p3 p4 t p6 p7 b0 b1 b2 b3 b4 b5 b6 b7 s dd p18).getD 1 0 = p1 := by rw [e]; show p1 % 256 = p1; omega
  have g2 : (codB p0 p1 p2 p3 p4 t p6 p7 b0 b1 b2 b3 b4 b5 b6 b7 s dd p18).getD 2 0 = p2 := by rw [e]; show p2 % 256 = p2; omega
  have g3 : (codB p0 p1 p2 p3 p4 t p6 p7 b0 b1 b2 b3 b4 b5 b6 b7 s dd p18).getD 3 0 = p3 := by rw [e]; show p3 % 256 = p3; omega
  have g4 : (codB p0 p1 p2 p3 p4 t p6 p7 b0 b1 b2 b3 b4 b5 b6 b7 s dd p18).getD 4 0 = p4 := by rw [e]; show p4 % 256 = p4; omega
  have g5 : (codB p0 p1 p2 p3 p4 t p6 p7 b0 b1 b2 b3 b4 b5 b6 b7 s dd p18).getD 5 0 = p6 := by rw [e]; show p6 % 256 = p6; omega
  have g6 : (codB p0 p1 p2 p3 p4 t p6 p7 b0 b1 b2 b3 b4 b5 b6 b7 s dd p18).getD 6 0 = p7 := by rw [e]; show p7 % 256 = p7; omega
  have g7 : (codB p0 p1 p2 p3 p4 t p6 p7 b0 b1 b2 b3 b4 b5 b6 b7 s dd p18).getD 7 0 = part [b0, b1, b2, b3, b4, b5, b6, b7] 8 := by rw [e]; show part [b0, b1, b2, b3, b4, b5, b6, b7] 8 % 256 = part [b0, b1, b2, b3, b4, b5, b6, b7] 8; omega
  have g8 : (codB p0 p1 p2 p3 p4 t p6 p7 b0 b1 b2 b3 b4 b5 b6 b7 s dd p18).getD 8 0 = p18 := by rw [e]; show p18 % 256 = p18; omega
  obtain ⟨f0, f1, f2, f3, f4, f5, f6, f7⟩ := flag_part b0 b1 b2 b3 b4 b5 b6 b7
  unfold PCodF
  rw [if_pos rfl, hc, hp, g0, g1, g2, g3, g4, g5, g6, g7, g8, f0, f1, f2, f3, f4, f5, f6, f7, if_pos (by omega), if_neg (by omega)]
def tileB (t p q s : Int) : List Int := be t 2 ++ [p % 256, q % 256] ++ be s 4
theorem tile_back {t p q s : Int} (h : (0 ≤ t ∧ t ≤ 65535) ∧ (0 ≤ p ∧ p ≤ 255) ∧ (0 ≤ q ∧ q ≤ 255) ∧ (0 ≤ s ∧ s ≤ 4294967295)) : PTile 65456 (tileB t p q s) = (t, p, q, s, 0) := by
  have e : tileB t p q s = [t / 256 % 256, t % 256, p % 256, q % 256, s / 16777216 % 256, s / 65536 % 256, s / 256 % 256, s % 256] := by simp [tileB, be]
  unfold PTile
  rw [e, if_pos rfl]
  show (num [t / 256 % 256, t % 256], num [p % 256], num [q % 256], num [s / 16777216 % 256, s / 65536 % 256, s / 256 % 256, s % 256], (0 : Int)) = _
  rw [num2 (by omega) (by omega), num1 (by omega) (by omega), num1 (by omega) (by omega), num4 (by omega) (by omega)]
end Go.Proofs.Ytihfopblmjgfaaa.Pure

/- What is read is written back. Printed by wip/tools/genPureEnc.py of this session. -/
namespace Go.Proofs.Ytihfopblmjgfaaa.Pure
open Go.RowKit Go.Proofs.Ytihfopblmjgfaaa.Q Go.Proofs.YtihfopblmjgfaaaW.PrintWords
set_option linter.unusedVariables false
set_option maxRecDepth 100000
theorem split13 (l : List Int) (h : 13 ≤ l.length) : ∃ x0 x1 x2 x3 x4 x5 x6 x7 x8 x9 x10 x11 x12 r, l = [x0, x1, x2, x3, x4, x5, x6, x7, x8, x9, x10, x11, x12] ++ r := by
  obtain _ | ⟨x0, l⟩ := l
  · simp at h
  obtain _ | ⟨x1, l⟩ := l
  · simp at h
  obtain _ | ⟨x2, l⟩ := l
  · simp at h
  obtain _ | ⟨x3, l⟩ := l
  · simp at h
  obtain _ | ⟨x4, l⟩ := l
  · simp at h
  obtain _ | ⟨x5, l⟩ := l
  · simp at h
  obtain _ | ⟨x6, l⟩ := l
  · simp at h
  obtain _ | ⟨x7, l⟩ := l
  · simp at h
  obtain _ | ⟨x8, l⟩ := l
  · simp at h
  obtain _ | ⟨x9, l⟩ := l
  · simp at h
  obtain _ | ⟨x10, l⟩ := l
  · simp at h
  obtain _ | ⟨x11, l⟩ := l
  · simp at h
  obtain _ | ⟨x12, l⟩ := l
  · simp at h
  exact ⟨x0, x1, x2, x3, x4, x5, x6, x7, x8, x9, x10, x11, x12, l, rfl⟩
theorem split10 (l : List Int) (h : 10 ≤ l.length) : ∃ x0 x1 x2 x3 x4 x5 x6 x7 x8 x9 r, l = [x0, x1, x2, x3, x4, x5, x6, x7, x8, x9] ++ r := by
  obtain _ | ⟨x0, l⟩ := l
  · simp at h
  obtain _ | ⟨x1, l⟩ := l
  · simp at h
  obtain _ | ⟨x2, l⟩ := l
  · simp at h
  obtain _ | ⟨x3, l⟩ := l
  · simp at h
  obtain _ | ⟨x4, l⟩ := l
  · simp at h
  obtain _ | ⟨x5, l⟩ := l
  · simp at h
  obtain _ | ⟨x6, l⟩ := l
  · simp at h
  obtain _ | ⟨x7, l⟩ := l
  · simp at h
  obtain _ | ⟨x8, l⟩ := l
  · simp at h
  obtain _ | ⟨x9, l⟩ := l
  · simp at h
  exact ⟨x0, x1, x2, x3, x4, x5, x6, x7, x8, x9, l, rfl⟩
theorem split8 (l : List Int) (h : 8 ≤ l.length) : ∃ x0 x1 x2 x3 x4 x5 x6 x7 r, l = [x0, x1, x2, x3, x4, x5, x6, x7] ++ r := by
  obtain _ | ⟨x0, l⟩ := l
  · simp at h
  obtain _ | ⟨x1, l⟩ := l
  · simp at h
  obtain _ | ⟨x2, l⟩ := l
  · simp at h
  obtain _ | ⟨x3, l⟩ := l
  · simp at h
  obtain _ | ⟨x4, l⟩ := l
  · simp at h
  obtain _ | ⟨x5, l⟩ := l
  · simp at h
  obtain _ | ⟨x6, l⟩ := l
  · simp at h
  obtain _ | ⟨x7, l⟩ := l
  · simp at h
  exact ⟨x0, x1, x2, x3, x4, x5, x6, x7, l, rfl⟩
theorem split2 (l : List Int) (h : 2 ≤ l.length) : ∃ x0 x1 r, l = [x0, x1] ++ r := by
  obtain _ | ⟨x0, l⟩ := l
  · simp at h
  obtain _ | ⟨x1, l⟩ := l
  · simp at h
  exact ⟨x0, x1, l, rfl⟩
theorem wf2 {x : Int} {l : List Int} (h : BY l) (hx : x ∈ l) : 0 ≤ x ∧ x ≤ 255 := wf_u8 (h x hx)
theorem back2 {x y : Int} (hx : 0 ≤ x ∧ x ≤ 255) (hy : 0 ≤ y ∧ y ≤ 255) : num [x, y] = 256 * x + y ∧ be (num [x, y]) 2 = [x, y] := by
  have e : num [x, y] = 256 * x + y := by
    simp only [num, List.foldl]
    rw [step_eq (v := 0) (by omega) (by omega) (by omega) (by omega), step_eq (by omega) (by omega) (by omega) (by omega)]
    omega
  refine ⟨e, ?_⟩
  rw [e]
  simp only [be, Nat.mul_one, Nat.mul_zero]
  rw [show (256 * x + y) / 2 ^ 8 % 256 = x by omega, show (256 * x + y) / 2 ^ 0 % 256 = y by omega]
theorem back1 {x : Int} (hx : 0 ≤ x ∧ x ≤ 255) : num [x] = x := by
  simp only [num, List.foldl]
  rw [step_eq (v := 0) (by omega) (by omega) (by omega) (by omega)]
  omega
theorem back4 {x y z u : Int} (hx : 0 ≤ x ∧ x ≤ 255) (hy : 0 ≤ y ∧ y ≤ 255) (hz : 0 ≤ z ∧ z ≤ 255) (hu : 0 ≤ u ∧ u ≤ 255) : (0 ≤ num [x, y, z, u] ∧ num [x, y, z, u] ≤ 4294967295) ∧ be (num [x, y, z, u]) 4 = [x, y, z, u] := by
  have e : num [x, y, z, u] = 16777216 * x + 65536 * y + 256 * z + u := by
    simp only [num, List.foldl]
    have s1 : step 0 x = x := by rw [step_eq (by omega) (by omega) (by omega) (by omega)]; omega
    have s2 : step x y = 256 * x + y := by rw [step_eq (by omega) (by omega) (by omega) (by omega)]; omega
    have s3 : step (256 * x + y) z = 65536 * x + 256 * y + z := by rw [step_eq (by omega) (by omega) (by omega) (by omega)]; omega
    have s4 : step (65536 * x + 256 * y + z) u = 16777216 * x + 65536 * y + 256 * z + u := by rw [step_eq (by omega) (by omega) (by omega) (by omega)]; omega
    rw [s1, s2, s3, s4]
  refine ⟨by omega, ?_⟩
  rw [e]
  simp only [be, Nat.mul_one, Nat.mul_zero]
  rw [show (16777216 * x + 65536 * y + 256 * z + u) / 2 ^ (8 * 3) % 256 = x by omega, show (16777216 * x + 65536 * y + 256 * z + u) / 2 ^ (8 * 2) % 256 = y by omega, show (16777216 * x + 65536 * y + 256 * z + u) / 2 ^ 8 % 256 = z by omega, show (16777216 * x + 65536 * y + 256 * z + u) / 2 ^ 0 % 256 = u by omega]
theorem enc_mkc {b x y : Int} (hb : 0 ≤ b ∧ b ≤ 255) (hx : 0 ≤ x ∧ x ≤ 255) (hy : 0 ≤ y ∧ y ≤ 255) : encC (mkc b x y) = [b, x, y] := by
  unfold encC mkc
  simp only
  have hw : wrap64 (b % 128 + 1 - 1) = b % 128 := by unfold wrap64; omega
  rw [hw]
  by_cases h : b ≥ 128
  · rw [if_pos (decide_eq_true h), show wrap64 (b % 128 + 128) % 256 = b by unfold wrap64; omega, show x % 256 = x by omega, show y % 256 = y by omega]
  · rw [if_neg (by simpa using h), show b % 128 % 256 = b by omega, show x % 256 = x by omega, show y % 256 = y by omega]
theorem BY_tl {x : Int} {l : List Int} (h : BY (x :: l)) : (0 ≤ x ∧ x ≤ 255) ∧ BY l := ⟨wf_u8 (h x (List.mem_cons_self ..)), fun y hy => h y (List.mem_cons_of_mem _ hy)⟩
theorem encs_comps : ∀ (n : Nat) (pre r : List Int), BY r → r.length = 3 * n → encCs (compsAt (pre ++ r) pre.length n) = r
  | 0, pre, r, _, hl => by
    obtain rfl : r = [] := List.eq_nil_of_length_eq_zero (by omega)
    rfl
  | n + 1, pre, r, hb, hl => by
    obtain _ | ⟨x, _ | ⟨y, _ | ⟨z, r⟩⟩⟩ := r
    · simp at hl
    · simp at hl; omega
    · simp at hl; omega
    obtain ⟨hx, hb⟩ := BY_tl hb
    obtain ⟨hy, hb⟩ := BY_tl hb
    obtain ⟨hz, hb⟩ := BY_tl hb
    have ih := encs_comps n (pre ++ [x, y, z]) r hb (by simp at hl; omega)
    have g0 := getD_pre pre (y :: z :: r) x
    have g1 := getD_pre (pre ++ [x]) (z :: r) y
    have g2 := getD_pre (pre ++ [x, y]) r z
    simp only [List.append_assoc, List.cons_append, List.nil_append, List.length_append, List.length_cons, List.length_nil] at ih g1 g2
    rw [compsAt, encCs, compAt_mk, g0, show pre.length + 1 = pre.length + (0 + 1) from rfl, g1, show pre.length + 2 = pre.length + (0 + 1 + 1) from rfl, g2, enc_mkc hx hy hz, show pre.length + 3 = pre.length + (0 + 1 + 1 + 1) from rfl, ih]
    rfl
theorem size_again {l : List Int} (hb : BY l) (h1 : 13 ≤ l.length) (h2 : l.length = 13 + 3 * cnt l) : SizeB (head6 l).1 (head6 l).2.1 (head6 l).2.2.1 (head6 l).2.2.2.1 (head6 l).2.2.2.2.1 (head6 l).2.2.2.2.2 (compsAt l 13 (cnt l)) = l := by
  obtain ⟨x0, x1, x2, x3, x4, x5, x6, x7, x8, x9, x10, x11, x12, r, rfl⟩ := split13 l h1
  have hc : cnt ([x0, x1, x2, x3, x4, x5, x6, x7, x8, x9, x10, x11, x12] ++ r) = x12.toNat := rfl
  have ha : 0 ≤ x0 ∧ x0 ≤ 255 := wf2 hb (by simp)
  have hb1 : 0 ≤ x1 ∧ x1 ≤ 255 := wf2 hb (by simp)
  have hc1 : 0 ≤ x2 ∧ x2 ≤ 255 := wf2 hb (by simp)
  have hd : 0 ≤ x3 ∧ x3 ≤ 255 := wf2 hb (by simp)
  have he : 0 ≤ x4 ∧ x4 ≤ 255 := wf2 hb (by simp)
  have hf : 0 ≤ x5 ∧ x5 ≤ 255 := wf2 hb (by simp)
  have hg : 0 ≤ x6 ∧ x6 ≤ 255 := wf2 hb (by simp)
  have hh : 0 ≤ x7 ∧ x7 ≤ 255 := wf2 hb (by simp)
  have hi : 0 ≤ x8 ∧ x8 ≤ 255 := wf2 hb (by simp)
  have hj : 0 ≤ x9 ∧ x9 ≤ 255 := wf2 hb (by simp)
  have hk : 0 ≤ x10 ∧ x10 ≤ 255 := wf2 hb (by simp)
  have hl1 : 0 ≤ x11 ∧ x11 ≤ 255 := wf2 hb (by simp)
  have hm : 0 ≤ x12 ∧ x12 ≤ 255 := wf2 hb (by simp)
  have hr : BY r := fun y hy => hb y (List.mem_append_right _ hy)
  have hl : r.length = 3 * x12.toNat := by rw [hc] at h2; simp at h2; omega
  have hcs := encs_comps x12.toNat [x0, x1, x2, x3, x4, x5, x6, x7, x8, x9, x10, x11, x12] r hr hl
  unfold SizeB
  rw [hc, compsAt_length, show compsAt ([x0, x1, x2, x3, x4, x5, x6, x7, x8, x9, x10, x11, x12] ++ r) 13 x12.toNat = compsAt ([x0, x1, x2, x3, x4, x5, x6, x7, x8, x9, x10, x11, x12] ++ r) [x0, x1, x2, x3, x4, x5, x6, x7, x8, x9, x10, x11, x12].length x12.toNat from rfl, hcs]
  show enc2 [num [x0, x1], num [x2, x3], num [x4, x5], num [x6, x7], num [x8, x9], num [x10, x11]] ++ be (x12.toNat : Int) 1 ++ r = _
  simp only [enc2]
  rw [(back2 ha hb1).2, (back2 hc1 hd).2, (back2 he hf).2, (back2 hg hh).2, (back2 hi hj).2, (back2 hk hl1).2]
  have e : be (x12.toNat : Int) 1 = [x12] := by
    simp only [be, Nat.mul_zero]
    rw [show ((x12.toNat : Int)) / 2 ^ 0 % 256 = x12 by omega]
  rw [e]
  simp
theorem encs_steps : ∀ (n : Nat) (pre r : List Int), BY r → r.length = 2 * n → encS (stepsAt (pre ++ r) pre.length n) = r ∧ ∀ x ∈ stepsAt (pre ++ r) pre.length n, 1 ≤ x ∧ x ≤ 65536
  | 0, pre, r, _, hl => by
    obtain rfl : r = [] := List.eq_nil_of_length_eq_zero (by omega)
    exact ⟨rfl, by simp [stepsAt]⟩
  | n + 1, pre, r, hb, hl => by
    obtain _ | ⟨x, _ | ⟨y, r⟩⟩ := r
    · simp at hl
    · simp at hl; omega
    obtain ⟨hx, hb⟩ := BY_tl hb
    obtain ⟨hy, hb⟩ := BY_tl hb
    obtain ⟨i1, i2⟩ := encs_steps n (pre ++ [x, y]) r hb (by simp at hl; omega)
    have g := sub_pre pre [x, y] r 2 rfl
    simp only [List.append_assoc, List.cons_append, List.nil_append, List.length_append, List.length_cons, List.length_nil] at i1 i2 g
    obtain ⟨e1, e2⟩ := back2 hx hy
    have e3 : wrap64 (num [x, y] + 1) = 256 * x + y + 1 := by rw [e1]; unfold wrap64; omega
    rw [stepsAt, g, show pre.length + 2 = pre.length + (0 + 1 + 1) from rfl]
    refine ⟨?_, ?_⟩
    · rw [encS, i1, e3, show wrap64 (256 * x + y + 1 - 1) = num [x, y] by rw [e1]; unfold wrap64; omega, e2]
      rfl
    · intro z hz
      rcases List.mem_cons.1 hz with rfl | hz
      · rw [e3]; omega
      · exact i2 z hz
theorem quant_again {l : List Int} (hb : BY l) (h1 : 2 ≤ l.length) (h2 : l.length = 2 + 2 * cntQ l) : QuantF (l.getD 0 0) (stepsAt l 2 (cntQ l)) = (65443, l, 0) := by
  obtain ⟨x0, x1, r, rfl⟩ := split2 l h1
  have hc : cntQ ([x0, x1] ++ r) = x1.toNat := rfl
  have ha : 0 ≤ x0 ∧ x0 ≤ 255 := wf2 hb (by simp)
  have hd : 0 ≤ x1 ∧ x1 ≤ 255 := wf2 hb (by simp)
  have hr : BY r := fun y hy => hb y (List.mem_append_right _ hy)
  have hl : r.length = 2 * x1.toNat := by rw [hc] at h2; simp at h2; omega
  obtain ⟨i1, i2⟩ := encs_steps x1.toNat [x0, x1] r hr hl
  rw [hc]
  have hg : ([x0, x1] ++ r).getD 0 0 = x0 := rfl
  have hn : (stepsAt ([x0, x1] ++ r) 2 x1.toNat).length = x1.toNat := stepsAt_length _ _ _
  have i1' : encS (stepsAt ([x0, x1] ++ r) 2 x1.toNat) = r := i1
  have i2' : inside 1 65536 (stepsAt ([x0, x1] ++ r) 2 x1.toNat) = true := List.all_eq_true.2 (fun x hx => by simpa using i2 x hx)
  unfold QuantF
  rw [hg, if_pos ⟨ha, by omega, i2'⟩, hn, i1']
  simp only [be, Nat.mul_zero]
  rw [show x0 / 2 ^ 0 % 256 = x0 by omega, show ((x1.toNat : Int)) / 2 ^ 0 % 256 = x1 by omega]
  rfl
theorem part_flag : ∀ x : Fin 256, part [flag ((x.val : Nat) : Int) 0, flag ((x.val : Nat) : Int) 1, flag ((x.val : Nat) : Int) 2, flag ((x.val : Nat) : Int) 3, flag ((x.val : Nat) : Int) 4, flag ((x.val : Nat) : Int) 5, flag ((x.val : Nat) : Int) 6, flag ((x.val : Nat) : Int) 7] 8 = ((x.val : Nat) : Int) := by decide +kernel
theorem part_flag' {x : Int} (h : 0 ≤ x ∧ x ≤ 255) : part [flag x 0, flag x 1, flag x 2, flag x 3, flag x 4, flag x 5, flag x 6, flag x 7] 8 = x := by
  have := part_flag ⟨x.toNat, by omega⟩
  simp only [] at this
  rwa [show ((x.toNat : Nat) : Int) = x by omega] at this
theorem encp_precs : ∀ (n : Nat) (pre r : List Int), BY r → r.length = n → encP (precsAt (pre ++ r) pre.length n) = r ∧ precOK (precsAt (pre ++ r) pre.length n) = true
  | 0, pre, r, _, hl => by
    obtain rfl : r = [] := List.eq_nil_of_length_eq_zero (by omega)
    exact ⟨rfl, rfl⟩
  | n + 1, pre, r, hb, hl => by
    obtain _ | ⟨x, r⟩ := r
    · simp at hl
    obtain ⟨hx, hb⟩ := BY_tl hb
    obtain ⟨i1, i2⟩ := encp_precs n (pre ++ [x]) r hb (by simp at hl; omega)
    have g := getD_pre pre r x
    simp only [List.append_assoc, List.cons_append, List.nil_append, List.length_append, List.length_cons, List.length_nil] at i1 i2
    rw [precsAt, precAt, g, show pre.length + 1 = pre.length + (0 + 1) from rfl]
    refine ⟨?_, ?_⟩
    · rw [encP, i1]
      simp only
      rw [show wrap64 (x % 16 + wrap64 (16 * (x / 16))) % 256 = x by unfold wrap64; omega]
    · rw [precOK, i2]
      simp
      omega
theorem cod_again {l : List Int} (hb : BY l) (h1 : 10 ≤ l.length) (h2 : l.length = 10 + cntC l) (s : List Int) (dd : Int) : CodF (l.getD 0 0) (l.getD 1 0) (l.getD 2 0) (l.getD 3 0) (l.getD 4 0) (precsAt l 10 (cntC l)) (l.getD 5 0) (l.getD 6 0) (flag (l.getD 7 0) 0) (flag (l.getD 7 0) 1) (flag (l.getD 7 0) 2) (flag (l.getD 7 0) 3) (flag (l.getD 7 0) 4) (flag (l.getD 7 0) 5) (flag (l.getD 7 0) 6) (flag (l.getD 7 0) 7) s dd (l.getD 8 0) = (65442, l, 0) := by
  obtain ⟨x0, x1, x2, x3, x4, x5, x6, x7, x8, x9, r, rfl⟩ := split10 l h1
  have hc : cntC ([x0, x1, x2, x3, x4, x5, x6, x7, x8, x9] ++ r) = x9.toNat := rfl
  have w0 : 0 ≤ x0 ∧ x0 ≤ 255 := wf2 hb (by simp)
  have w1 : 0 ≤ x1 ∧ x1 ≤ 255 := wf2 hb (by simp)
  have w2 : 0 ≤ x2 ∧ x2 ≤ 255 := wf2 hb (by simp)
  have w3 : 0 ≤ x3 ∧ x3 ≤ 255 := wf2 hb (by simp)
  have w4 : 0 ≤ x4 ∧ x4 ≤ 255 := wf2 hb (by simp)
  have w5 : 0 ≤ x5 ∧ x5 ≤ 255 := wf2 hb (by simp)
  have w6 : 0 ≤ x6 ∧ x6 ≤ 255 := wf2 hb (by simp)
  have w7 : 0 ≤ x7 ∧ x7 ≤ 255 := wf2 hb (by simp)
  have w8 : 0 ≤ x8 ∧ x8 ≤ 255 := wf2 hb (by simp)
  have w9 : 0 ≤ x9 ∧ x9 ≤ 255 := wf2 hb (by simp)
  have hr : BY r := fun y hy => hb y (List.mem_append_right _ hy)
  have hl : r.length = x9.toNat := by rw [hc] at h2; simp at h2; omega
  obtain ⟨i1, i2⟩ := encp_precs x9.toNat [x0, x1, x2, x3, x4, x5, x6, x7, x8, x9] r hr hl
  rw [hc]
  show CodF x0 x1 x2 x3 x4 (precsAt ([x0, x1, x2, x3, x4, x5, x6, x7, x8, x9] ++ r) 10 x9.toNat) x5 x6 (flag x7 0) (flag x7 1) (flag x7 2) (flag x7 3) (flag x7 4) (flag x7 5) (flag x7 6) (flag x7 7) s dd x8 = _
  have i1' : encP (precsAt ([x0, x1, x2, x3, x4, x5, x6, x7, x8, x9] ++ r) 10 x9.toNat) = r := i1
  have i2' : precOK (precsAt ([x0, x1, x2, x3, x4, x5, x6, x7, x8, x9] ++ r) 10 x9.toNat) = true := i2
  unfold CodF codL
  rw [part_flag' w7, precsAt_length, show ((x9.toNat : Nat) : Int) = x9 by omega, if_pos (by simp [inside]; omega)]
  unfold CodC
  rw [if_pos i2', i1']
  simp only [enc1]
  rw [show x0 % 256 = x0 by omega, show x1 % 256 = x1 by omega, show x2 % 256 = x2 by omega, show x3 % 256 = x3 by omega, show x4 % 256 = x4 by omega, show x5 % 256 = x5 by omega, show x6 % 256 = x6 by omega, show x7 % 256 = x7 by omega, show x8 % 256 = x8 by omega, show x9 % 256 = x9 by omega]
theorem tile_again {l : List Int} (hb : BY l) (h : l.length = 8) : TileF (num (sub l 0 2)) (num (sub l 2 1)) (num (sub l 3 1)) (num (sub l 4 4)) = (65456, l, 0) := by
  obtain ⟨x0, x1, x2, x3, x4, x5, x6, x7, r, rfl⟩ := split8 l (by omega)
  obtain rfl : r = [] := by simpa using h
  have w0 : 0 ≤ x0 ∧ x0 ≤ 255 := wf2 hb (by simp)
  have w1 : 0 ≤ x1 ∧ x1 ≤ 255 := wf2 hb (by simp)
  have w2 : 0 ≤ x2 ∧ x2 ≤ 255 := wf2 hb (by simp)
  have w3 : 0 ≤ x3 ∧ x3 ≤ 255 := wf2 hb (by simp)
  have w4 : 0 ≤ x4 ∧ x4 ≤ 255 := wf2 hb (by simp)
  have w5 : 0 ≤ x5 ∧ x5 ≤ 255 := wf2 hb (by simp)
  have w6 : 0 ≤ x6 ∧ x6 ≤ 255 := wf2 hb (by simp)
  have w7 : 0 ≤ x7 ∧ x7 ≤ 255 := wf2 hb (by simp)
  show TileF (num [x0, x1]) (num [x2]) (num [x3]) (num [x4, x5, x6, x7]) = _
  obtain ⟨e1, e2⟩ := back2 w0 w1
  obtain ⟨e3, e4⟩ := back4 w4 w5 w6 w7
  unfold TileF
  rw [back1 w2, back1 w3, if_pos ⟨by omega, by omega, by omega, e3⟩, e2, e4, show x2 % 256 = x2 by omega, show x3 % 256 = x3 by omega]
  rfl
theorem str_again : ∀ {l : List Int}, BY l → strBytes (strOfNums l) = l ∧ (strOfNums l).size = l.length := by
  intro l hb
  have hs : (strOfNums l).size = l.length := by simp [strOfNums, ByteArray.size]
  refine ⟨?_, hs⟩
  simp only [strOfNums, strBytes, List.map_map]
  refine (List.map_congr_left (g := id) (fun x hx => ?_)).trans (List.map_id l)
  have := wf2 hb hx
  simp
  omega
def numsAt (l : List Int) : Nat → Nat → List Int
  | _, 0 => []
  | p, n + 1 => num (sub l p 4) :: numsAt l (p + 4) n
theorem numsAt_length (l : List Int) : ∀ n p, (numsAt l p n).length = n
  | 0, _ => rfl
  | n + 1, p => by simp [numsAt, numsAt_length l n]
theorem enc4_nums : ∀ (n : Nat) (pre r : List Int), BY r → r.length = 4 * n → enc4 (numsAt (pre ++ r) pre.length n) = r ∧ ∀ x ∈ numsAt (pre ++ r) pre.length n, 0 ≤ x ∧ x ≤ 4294967295
  | 0, pre, r, _, hl => by
    obtain rfl : r = [] := List.eq_nil_of_length_eq_zero (by omega)
    exact ⟨rfl, by simp [numsAt]⟩
  | n + 1, pre, r, hb, hl => by
    obtain _ | ⟨x, _ | ⟨y, _ | ⟨z, _ | ⟨u, r⟩⟩⟩⟩ := r
    · simp at hl
    · simp at hl; omega
    · simp at hl; omega
    · simp at hl; omega
    obtain ⟨hx, hb⟩ := BY_tl hb
    obtain ⟨hy, hb⟩ := BY_tl hb
    obtain ⟨hz, hb⟩ := BY_tl hb
    obtain ⟨hu, hb⟩ := BY_tl hb
    obtain ⟨i1, i2⟩ := enc4_nums n (pre ++ [x, y, z, u]) r hb (by simp at hl; omega)
    have g := sub_pre pre [x, y, z, u] r 4 rfl
    simp only [List.append_assoc, List.cons_append, List.nil_append, List.length_append, List.length_cons, List.length_nil] at i1 i2 g
    obtain ⟨e1, e2⟩ := back4 hx hy hz hu
    rw [numsAt, g, show pre.length + 4 = pre.length + (0 + 1 + 1 + 1 + 1) from rfl]
    refine ⟨?_, ?_⟩
    · rw [enc4, i1, e2]
      rfl
    · intro v hv
      rcases List.mem_cons.1 hv with rfl | hv
      · exact e1
      · exact i2 v hv
theorem one_inner (c : Int) (l : List Int) (hl : l.length ≤ 70000) (d : Nat) : ∀ (j : Nat) (acc : List Int), 4 * (j + d) + 1 = l.length → acc.length ≤ j → Ev (fun k => headseg_ParseLengths.l2 k [(⟨c, l⟩ : S26)] acc (l.length : Int) ((4 * j + 1 : Nat) : Int) [(⟨c, l⟩ : S26)] 1 0 c l) (acc ++ numsAt l (4 * j + 1) d, 0) := by
  induction d with
  | zero =>
    intro j acc hj ha
    refine Ev.step (fun k => headseg_ParseLengths.l2.eq_2 ..) (Ev.neg (by omega) (Ev.step (fun k => headseg_ParseLengths.l1.eq_2 ..) (Ev.neg (by unfold wrap64; omega) ?_)))
    simpa [numsAt] using Ev.now (acc, (0 : Int))
  | succ d ih =>
    intro j acc hj ha
    have hw : wrap64 (((4 * j + 1 : Nat) : Int) + 4) = ((4 * (j + 1) + 1 : Nat) : Int) := by unfold wrap64; omega
    have := ih (j + 1) (acc ++ [num (sub l (4 * j + 1) 4)]) (by omega) (by simp; omega)
    refine Ev.step (fun k => headseg_ParseLengths.l2.eq_2 ..) (Ev.pos (by omega) (Ev.bind (ev_in l (by omega) (4 * j + 1) 4 (by omega) (by omega) (by omega)) (Ev.pos (by omega) ?_)))
    rw [hw]
    simpa [numsAt, show 4 * j + 1 + 4 = 4 * (j + 1) + 1 by omega] using this
theorem one_lengths (c : Int) (l : List Int) (hb : BY l) (hl : l.length ≤ 70000) : ∃ g, Ev (fun k => headseg_ParseLengths.f k [(⟨c, l⟩ : S26)]) g ∧ (g.2 = 0 → Ev (fun k => headseg_Lengths.f k c g.1) ([(⟨c, l⟩ : S26)], 0)) := by
  have r0 : rd_T26 [(⟨c, l⟩ : S26)] 0 = ⟨c, l⟩ := rfl
  by_cases hc : c = 65445 ∨ c = 65457
  rotate_left
  · refine ⟨([], 11), Ev.congr (fun k => headseg_ParseLengths.f.eq_1 ..) (Ev.step (fun k => headseg_ParseLengths.l0.eq_2 ..) (Ev.pos (by simp) (Ev.pos (by omega) (Ev.pos (by simp) (Ev.pos (by simp) (Ev.pos rfl (Ev.neg (fun h => hc (.inl h)) (Ev.neg (fun h => hc (.inr h)) (Ev.now _))))))))), by simp⟩
  -- behind the check of the codes
  suffices hh : ∃ g, Ev (fun k => headseg_ParseLengths.l1 k [(⟨c, l⟩ : S26)] [] [(⟨c, l⟩ : S26)] 1 0) g ∧ (g.2 = 0 → Ev (fun k => headseg_Lengths.f k c g.1) ([(⟨c, l⟩ : S26)], 0)) by
    obtain ⟨g, h1, h2⟩ := hh
    refine ⟨g, ?_, h2⟩
    have hj : Ev (fun k => headseg_ParseLengths.j1 k [(⟨c, l⟩ : S26)] (decide (([(⟨c, l⟩ : S26)].length : Int) > 256))) g := by
      rw [decide_eq_false (by simp)]
      exact Ev.step (fun k => headseg_ParseLengths.j1.eq_2 ..) (Ev.neg (by simp) h1)
    have hn : Ev (fun k => headseg_ParseLengths.l0 k [(⟨c, l⟩ : S26)] [(⟨c, l⟩ : S26)] 1 (wrap64 (0 + 1))) g :=
      Ev.step (fun k => headseg_ParseLengths.l0.eq_2 ..) (Ev.neg (by unfold wrap64; omega) (Ev.neg (by simp) hj))
    refine Ev.congr (fun k => headseg_ParseLengths.f.eq_1 ..) (Ev.step (fun k => headseg_ParseLengths.l0.eq_2 ..) (Ev.pos (by simp) (Ev.pos (by omega) (Ev.pos (by simp) (Ev.pos (by simp) (Ev.pos rfl ?_))))))
    by_cases h5 : c = 65445
    · exact Ev.pos h5 hn
    · exact Ev.neg h5 (Ev.pos (hc.resolve_left h5) hn)
  have hbad : ∀ x6 x9 x45 x46 x47 x c', Ev (fun k => headseg_ParseLengths.j3 k x x6 x9 x45 x46 x47 true c' l) ([], 8) := fun _ _ _ _ _ _ _ => Ev.step (fun k => headseg_ParseLengths.j3.eq_2 ..) (Ev.pos rfl (Ev.now _))
  by_cases h1 : (l.length : Int) % 4 = 1
  rotate_left
  · exact ⟨([], 8), Ev.step (fun k => headseg_ParseLengths.l1.eq_2 ..) (Ev.pos (by omega) (Ev.pos (by omega) (Ev.pos (by simp) (Ev.neg h1 (hbad ..))))), by simp⟩
  obtain _ | ⟨x, r⟩ := l
  · simp at h1
  obtain ⟨hx, hr⟩ := BY_tl hb
  have e0 : rd (x :: r) 0 = x := rfl
  have ew : wrap64 x = x := by unfold wrap64; omega
  by_cases h2 : x = 0
  rotate_left
  · exact ⟨([], 8), Ev.step (fun k => headseg_ParseLengths.l1.eq_2 ..) (Ev.pos (by omega) (Ev.pos (by omega) (Ev.pos (by simp) (Ev.pos h1 (Ev.pos (by show (0 : Int) < ((x :: r).length : Int); simp) (Ev.neg (by show ¬ wrap64 (rd (x :: r) 0) = 0; rw [e0, ew]; exact h2) (hbad ..))))))), by simp⟩
  subst h2
  by_cases h3 : (((0 :: r : List Int)).length : Int) > 64001
  · exact ⟨([], 8), Ev.step (fun k => headseg_ParseLengths.l1.eq_2 ..) (Ev.pos (by omega) (Ev.pos (by omega) (Ev.pos (by simp) (Ev.pos h1 (Ev.pos (by show (0 : Int) < ((0 :: r : List Int).length : Int); simp) (Ev.pos (by show wrap64 (rd (0 :: r) 0) = 0; rw [e0, ew]) (Ev.pos h3 (hbad ..)))))))), by simp⟩
  obtain ⟨m, hm⟩ : ∃ m : Nat, r.length = 4 * m := ⟨r.length / 4, by simp at h1; omega⟩
  have hin := one_inner c (0 :: r) hl m 0 [] (by simp; omega) (by simp)
  refine ⟨(numsAt (0 :: r) 1 m, 0), Ev.step (fun k => headseg_ParseLengths.l1.eq_2 ..) (Ev.pos (by omega) (Ev.pos (by omega) (Ev.pos (by simp) (Ev.pos h1 (Ev.pos (by show (0 : Int) < ((0 :: r : List Int).length : Int); simp) (Ev.pos (by show wrap64 (rd (0 :: r) 0) = 0; rw [e0, ew]) (Ev.neg h3 (Ev.neg (by unfold wrap64; simp) (Ev.neg (by omega) (Ev.step (fun k => headseg_ParseLengths.j3.eq_2 ..) (Ev.neg (by simp) ?_))))))))))), fun _ => ?_⟩
  · simp only [List.nil_append, Nat.mul_zero, Nat.zero_add] at hin
    exact hin
  · obtain ⟨i1, i2⟩ := enc4_nums m [0] r hr hm
    have i1' : enc4 (numsAt (0 :: r) 1 m) = r := i1
    have hlm : (numsAt (0 :: r) 1 m).length = m := numsAt_length _ _ _
    have hm' : m ≤ 16000 := by simp at h3; omega
    have := len_ev c (numsAt (0 :: r) 1 m) (by omega)
    have e : LenF c (numsAt (0 :: r) 1 m) = ([(⟨c, 0 :: r⟩ : S26)], 0) := by
      unfold LenF
      rw [if_neg (fun h => h hc), if_pos (show inside 0 4294967295 (numsAt (0 :: r) 1 m) = true from List.all_eq_true.2 (fun y hy => by simpa using i2 y hy))]
      have hn : nseg (numsAt (0 :: r) 1 m) = 1 := by unfold nseg; omega
      have hk : chunk (numsAt (0 :: r) 1 m) 0 = numsAt (0 :: r) 1 m := by
        unfold chunk
        rw [Nat.mul_zero, List.drop_zero, List.take_of_length_le (by omega)]
      rw [hn]
      simp only [segsFrom, segAt, hk, i1']
      rfl
    rw [e] at this
    exact this
theorem rdT_at {s : List S26} (i : Nat) (hi : i < s.length) : rd_T26 s (i : Int) = s[i] := by
  unfold rd_T26
  rw [Int.toNat_natCast, List.getD_eq_getElem?_getD, List.getElem?_eq_getElem hi]
  rfl
theorem sameSegs_loop (a : List S26) (ha : a.length ≤ 1000000) (hb : ∀ x ∈ a, x.f1.length ≤ 100000) (d : Nat) : ∀ (j : Nat), j + d = a.length → Ev (fun k => waveletlaw29_sameSegments.l0 k a a (a.length : Int) (j : Int)) true := by
  induction d with
  | zero =>
    intro j hj
    exact Ev.step (fun k => waveletlaw29_sameSegments.l0.eq_2 ..) (Ev.neg (by omega) (Ev.now _))
  | succ d ih =>
    intro j hj
    have hlt : j < a.length := by omega
    have h1 := hb a[j] (List.getElem_mem hlt)
    rw [← rdT_at j hlt] at h1
    refine Ev.step (fun k => waveletlaw29_sameSegments.l0.eq_2 ..) (Ev.pos (by omega) (Ev.pos (by omega) (Ev.pos (by omega) (Ev.pos (by omega) (Ev.bind (ev_sameSegment _ _ (by omega)) (Ev.pos rfl ?_))))))
    rw [show wrap64 ((j : Int) + 1) = ((j + 1 : Nat) : Int) by unfold wrap64; omega]
    exact ih (j + 1) (by omega)
theorem ev_sameSegs (a : List S26) (ha : a.length ≤ 1000000) (hb : ∀ x ∈ a, x.f1.length ≤ 100000) : Ev (fun k => waveletlaw29_sameSegments.f k a a) true :=
  Ev.congr (fun k => waveletlaw29_sameSegments.f.eq_1 ..) (Ev.pos rfl (sameSegs_loop a ha hb a.length 0 (by omega)))
end Go.Proofs.Ytihfopblmjgfaaa.Pure

/- HeadsegEncodes: a segment that is read is the one that is written. No condition beside the statement's own. -/
namespace Go.Proofs.Ytihfopblmjgfaaa.Pure
open Go.RowKit Go.Proofs.Ytihfopblmjgfaaa.Q Go.Proofs.YtihfopblmjgfaaaW.PrintWords
set_option linter.unusedVariables false
set_option maxRecDepth 100000
theorem posE {α : Type} {c : Prop} {I : Decidable c} {f g : Nat → Option α} {r : α} (h : c) (k : Ev f r) : Ev (fun n => @ite _ c I (f n) (g n)) r := Ev.pos h k
theorem negE {α : Type} {c : Prop} {I : Decidable c} {f g : Nat → Option α} {r : α} (h : ¬ c) (k : Ev g r) : Ev (fun n => @ite _ c I (f n) (g n)) r := Ev.neg h k
theorem stage_ev {α β : Type} {P : Nat → Option α} {ok : α → Prop} {E : Nat → α → Option β} {v : β} {S nx : Nat → Option Bool} {g : α} (hP : Ev P g) (hE : ok g → Ev (fun k => E k g) v) (hS : Ev S true) (hn : Ev nx true) : Ev (fun k => stage (P k) ok (E k) v (S k) (nx k)) true := by
  refine Ev.bind hP ?_
  by_cases e : ok g
  · exact posE e (Ev.bind (hE e) (posE rfl (Ev.bind hS (posE rfl hn))))
  · exact negE e hn
theorem size_stage {r c : Int} {l : List Int} (hb : BY l) (he : (PSizeF r c l).2.2.2.2.2.2.2 = 0) (hv : Ev (fun k => params_Header.f k (head6 l).1 (head6 l).2.1 (head6 l).2.2.1 (head6 l).2.2.2.1 (head6 l).2.2.2.2.1 (head6 l).2.2.2.2.2 (compsAt l 13 (cnt l))) r) (hl : (compsAt l 13 (cnt l)).length ≤ 100000) : Ev (fun k => headseg_Size.f k (PSizeF r c l).1 (PSizeF r c l).2.1 (PSizeF r c l).2.2.1 (PSizeF r c l).2.2.2.1 (PSizeF r c l).2.2.2.2.1 (PSizeF r c l).2.2.2.2.2.1 (PSizeF r c l).2.2.2.2.2.2.1) (c, l, 0) := by
  unfold PSizeF at he ⊢
  split at he
  rotate_left
  · simp [zeroH] at he
  rename_i hc
  split at he
  rotate_left
  · simp [zeroH] at he
  rename_i h1
  split at he
  · simp [zeroH] at he
  rename_i h2
  split at he
  rotate_left
  · rename_i h3
    simp [zeroH] at he
    exact absurd he h3
  rename_i h3
  subst hc h3
  rw [if_pos rfl, if_pos h1, if_neg h2, if_pos rfl]
  have := size_ev _ _ _ _ _ _ _ hl hv
  rw [show SizeF 0 (head6 l).1 (head6 l).2.1 (head6 l).2.2.1 (head6 l).2.2.2.1 (head6 l).2.2.2.2.1 (head6 l).2.2.2.2.2 (compsAt l 13 (cnt l)) = (65441, l, 0) by
    unfold SizeF
    rw [if_pos rfl, size_again hb h1.1 (by omega)]] at this
  exact this
theorem cod_stage {c : Int} {l : List Int} (hb : BY l) (he : (PCodF c l).2.2.2.2.2.2.2.2.2.2.2.2.2.2.2.2.2.2.2 = 0) : Ev (fun k => headseg_Coding.f k (PCodF c l).1 (PCodF c l).2.1 (PCodF c l).2.2.1 (PCodF c l).2.2.2.1 (PCodF c l).2.2.2.2.1 (PCodF c l).2.2.2.2.2.1 (PCodF c l).2.2.2.2.2.2.1 (PCodF c l).2.2.2.2.2.2.2.1 (PCodF c l).2.2.2.2.2.2.2.2.1 (PCodF c l).2.2.2.2.2.2.2.2.2.1 (PCodF c l).2.2.2.2.2.2.2.2.2.2.1 (PCodF c l).2.2.2.2.2.2.2.2.2.2.2.1 (PCodF c l).2.2.2.2.2.2.2.2.2.2.2.2.1 (PCodF c l).2.2.2.2.2.2.2.2.2.2.2.2.2.1 (PCodF c l).2.2.2.2.2.2.2.2.2.2.2.2.2.2.1 (PCodF c l).2.2.2.2.2.2.2.2.2.2.2.2.2.2.2.1 (PCodF c l).2.2.2.2.2.2.2.2.2.2.2.2.2.2.2.2.1 (PCodF c l).2.2.2.2.2.2.2.2.2.2.2.2.2.2.2.2.2.1 (PCodF c l).2.2.2.2.2.2.2.2.2.2.2.2.2.2.2.2.2.2.1) (c, l, 0) := by
  unfold PCodF at he ⊢
  split at he
  rotate_left
  · simp [zeroP] at he
  rename_i hc
  split at he
  rotate_left
  · simp [zeroP] at he
  rename_i h1
  split at he
  · simp [zeroP] at he
  rename_i h2
  subst hc
  rw [if_pos rfl, if_pos h1, if_neg h2]
  have hn := (cntC_le hb h1.1).1
  have := coding_ev (l.getD 0 0) (l.getD 1 0) (l.getD 2 0) (l.getD 3 0) (l.getD 4 0) (precsAt l 10 (cntC l)) (l.getD 5 0) (l.getD 6 0) (flag (l.getD 7 0) 0) (flag (l.getD 7 0) 1) (flag (l.getD 7 0) 2) (flag (l.getD 7 0) 3) (flag (l.getD 7 0) 4) (flag (l.getD 7 0) 5) (flag (l.getD 7 0) 6) (flag (l.getD 7 0) 7) [] 0 (l.getD 8 0) (by rw [precsAt_length]; omega)
  rw [cod_again hb h1.1 (by omega)] at this
  exact this
theorem quant_stage {c : Int} {l : List Int} (hb : BY l) (he : (PQuantF c l 0 0 0 0 0 [] 0 0 false false false false false false false false [] 0 0).2.2.2.2.2.2.2.2.2.2.2.2.2.2.2.2.2.2.2 = 0) : Ev (fun k => headseg_Quant.f k (PQuantF c l 0 0 0 0 0 [] 0 0 false false false false false false false false [] 0 0).1 (PQuantF c l 0 0 0 0 0 [] 0 0 false false false false false false false false [] 0 0).2.1 (PQuantF c l 0 0 0 0 0 [] 0 0 false false false false false false false false [] 0 0).2.2.1 (PQuantF c l 0 0 0 0 0 [] 0 0 false false false false false false false false [] 0 0).2.2.2.1 (PQuantF c l 0 0 0 0 0 [] 0 0 false false false false false false false false [] 0 0).2.2.2.2.1 (PQuantF c l 0 0 0 0 0 [] 0 0 false false false false false false false false [] 0 0).2.2.2.2.2.1 (PQuantF c l 0 0 0 0 0 [] 0 0 false false false false false false false false [] 0 0).2.2.2.2.2.2.1 (PQuantF c l 0 0 0 0 0 [] 0 0 false false false false false false false false [] 0 0).2.2.2.2.2.2.2.1 (PQuantF c l 0 0 0 0 0 [] 0 0 false false false false false false false false [] 0 0).2.2.2.2.2.2.2.2.1 (PQuantF c l 0 0 0 0 0 [] 0 0 false false false false false false false false [] 0 0).2.2.2.2.2.2.2.2.2.1 (PQuantF c l 0 0 0 0 0 [] 0 0 false false false false false false false false [] 0 0).2.2.2.2.2.2.2.2.2.2.1 (PQuantF c l 0 0 0 0 0 [] 0 0 false false false false false false false false [] 0 0).2.2.2.2.2.2.2.2.2.2.2.1 (PQuantF c l 0 0 0 0 0 [] 0 0 false false false false false false false false [] 0 0).2.2.2.2.2.2.2.2.2.2.2.2.1 (PQuantF c l 0 0 0 0 0 [] 0 0 false false false false false false false false [] 0 0).2.2.2.2.2.2.2.2.2.2.2.2.2.1 (PQuantF c l 0 0 0 0 0 [] 0 0 false false false false false false false false [] 0 0).2.2.2.2.2.2.2.2.2.2.2.2.2.2.1 (PQuantF c l 0 0 0 0 0 [] 0 0 false false false false false false false false [] 0 0).2.2.2.2.2.2.2.2.2.2.2.2.2.2.2.1 (PQuantF c l 0 0 0 0 0 [] 0 0 false false false false false false false false [] 0 0).2.2.2.2.2.2.2.2.2.2.2.2.2.2.2.2.1 (PQuantF c l 0 0 0 0 0 [] 0 0 false false false false false false false false [] 0 0).2.2.2.2.2.2.2.2.2.2.2.2.2.2.2.2.2.1 (PQuantF c l 0 0 0 0 0 [] 0 0 false false false false false false false false [] 0 0).2.2.2.2.2.2.2.2.2.2.2.2.2.2.2.2.2.2.1) (c, l, 0) := by
  unfold PQuantF at he ⊢
  split at he
  rotate_left
  · simp [zeroP] at he
  rename_i hc
  split at he
  rotate_left
  · simp [zeroP] at he
  rename_i h1
  split at he
  · simp [zeroP] at he
  rename_i h2
  subst hc
  rw [if_pos rfl, if_pos h1, if_neg h2]
  have hn := (cntQ_le hb h1.1).1
  have := quant_ev 0 0 0 0 0 [] 0 0 false false false false false false false false (stepsAt l 2 (cntQ l)) (l.getD 0 0) 0 (by rw [stepsAt_length]; omega)
  rw [quant_again hb h1.1 (by omega)] at this
  exact this
theorem tile_stage {c : Int} {l : List Int} (hb : BY l) (he : (PTile c l).2.2.2.2 = 0) : Ev (fun k => headseg_Tile.f k (PTile c l).1 (PTile c l).2.1 (PTile c l).2.2.1 (PTile c l).2.2.2.1) (c, l, 0) := by
  unfold PTile at he ⊢
  split at he
  rotate_left
  · simp at he
  rename_i hc
  split at he
  · simp at he
  rename_i h1
  split at he
  · simp at he
  rename_i h2
  subst hc
  rw [if_pos rfl, if_neg h1, if_neg h2]
  have := Ev.plus (f := fun k => headseg_Tile.f k (num (sub l 0 2)) (num (sub l 2 1)) (num (sub l 3 1)) (num (sub l 4 4))) 20 (tile_eq _ _ _ _)
  rw [tile_again hb (by omega)] at this
  exact this
theorem HeadsegEncodes (a0_0 : Int) (l0_1 : List (Int)) (w0_0 : (Lit.int .i64 a0_0).wf = true) (y0_1 : l0_1.length * 1 ≤ 140737488351232) (w0_1 : ∀ x ∈ l0_1, (Lit.int .u8 x).wf = true) : ∃ k, waveletlaw29_HeadsegEncodes.f k a0_0 l0_1 = some true := by
  have hb : BY l0_1 := w0_1
  refine Ev.rounds (Ev.congr (fun k => waveletlaw29_HeadsegEncodes.f.eq_1 ..) ?_)
  simp only [waveletlaw29_long.f, Option.bind_some]
  by_cases h3 : (l0_1.length : Int) > 70000
  · rw [decide_eq_true h3]; exact Ev.pos rfl ev_awake
  rw [decide_eq_false h3]
  refine Ev.neg (by simp) ?_
  have hl : l0_1.length ≤ 1000000 := by omega
  have hS := ev_sameSegment a0_0 l0_1 (by omega)
  have hcl : (compsAt l0_1 13 (cnt l0_1)).length ≤ 100000 := by
    rw [compsAt_length]
    by_cases h13 : 13 ≤ l0_1.length
    · have := (cnt_le hb h13).1; omega
    · unfold cnt
      rw [List.getD_eq_getElem?_getD, List.getElem?_eq_none (by omega)]
      simp
  obtain ⟨r, q1, -⟩ := hdr_ev (head6 l0_1).1 (head6 l0_1).2.1 (head6 l0_1).2.2.1 (head6 l0_1).2.2.2.1 (head6 l0_1).2.2.2.2.1 (head6 l0_1).2.2.2.2.2 (compsAt l0_1 13 (cnt l0_1)) hcl
  obtain ⟨g6, p6, e6⟩ := one_lengths a0_0 l0_1 hb (by omega)
  have s6 : Ev (fun k => encLen k a0_0 l0_1) true := stage_ev p6 e6 (ev_sameSegs [(⟨a0_0, l0_1⟩ : S26)] (by simp) (by simp; omega)) ev_awake
  have s5 : Ev (fun k => encCom k a0_0 l0_1) true := by
    by_cases hg : a0_0 = 65444 ∧ ¬ (l0_1.length : Int) > 65533
    · refine stage_ev (g := (strOfNums l0_1, 0)) ?_ (fun _ => ?_) hS s6
      · unfold headseg_ParseComment.f
        rw [if_pos hg.1, if_neg hg.2]
        exact Ev.now _
      · obtain ⟨e1, e2⟩ := str_again hb
        have : headseg_Comment.f (strOfNums l0_1) = some (a0_0, l0_1, 0) := by
          unfold headseg_Comment.f
          rw [if_pos (by omega), if_neg (by omega), e1, hg.1]
        simp only [this]
        exact Ev.now _
    · by_cases h1 : a0_0 = 65444
      · refine stage_ev (g := ((⟨#[]⟩ : ByteArray), 5)) ?_ (fun h => absurd h (by simp)) hS s6
        unfold headseg_ParseComment.f
        rw [if_pos h1, if_pos (by omega)]
        exact Ev.now _
      · refine stage_ev (g := ((⟨#[]⟩ : ByteArray), 11)) ?_ (fun h => absurd h (by simp)) hS s6
        unfold headseg_ParseComment.f
        rw [if_neg h1]
        exact Ev.now _
  have s4 : Ev (fun k => encTile k a0_0 l0_1) true := stage_ev (Ev.plus (f := fun k => headseg_ParseTile.f k a0_0 l0_1) 6 (ptile_eq a0_0 l0_1 hl)) (fun h => tile_stage hb h) hS s5
  have s3 : Ev (fun k => encQuant k a0_0 l0_1) true := stage_ev (pquant_ev hb hl a0_0 0 0 0 0 0 [] 0 0 false false false false false false false false [] 0 0 (by simp) (by simp)) (fun h => quant_stage hb h) hS s4
  have s2 : Ev (fun k => encCod k a0_0 l0_1) true := stage_ev (pcod_ev hb hl a0_0) (fun h => cod_stage hb h) hS s3
  exact stage_ev (psize_ev hb hl a0_0 q1) (fun h => size_stage hb h q1 hcl) hS s2
end Go.Proofs.Ytihfopblmjgfaaa.Pure

/- How an argument of a law is opened as a value of a printed kind, for any type that is built of integers, bools, strings, slices and structs: 'Opens P t d ok' says that what reads as data of type t holds the cells of some v of kind d, with ok v. -/
namespace Go.Proofs.Ytihfopblmjgfaaa.Open
open Go.RowKit Go.Proofs.YtihfopblmjgfaaaW.PrintWords

def Light {H : Type} (P : Program) (t : TypeId) (d : DataW H) : Prop := ∀ n ∈ d.weights P t, n ≤ 140737488351232

structure Opens {α : Type} (P : Program) (t : TypeId) (d : Kd α) (ok : α → Prop) : Prop where
  size : P.cellsOf t = d.sz
  opens : ∀ {H : Type} {enc : TypeId × Value → H} {w : World} {base : Nat} {spare : Nat → Bool} {held : Bool} {fuel : Nat} {cs : List Value} {x : DataW H × List MemPlace},
    DataW.trod enc P w base spare held fuel t cs = some x → Light P t x.1 → ∃ v, d.K w v cs ∧ ok v

theorem opens_int {P : Program} {t : TypeId} {k : IntKind} (ht : P.underlying t = some (.int k)) (hc : P.cellsOf t = 1) : Opens P t (Kd.int k) (fun n => (Lit.int k n).wf = true) :=
  ⟨hc, fun h _ => by
    obtain ⟨n, rfl, _, hw⟩ := DataW.trod_int ht h
    exact ⟨n, rfl, hw⟩⟩
theorem list_of_lt {α : Type} {p : Nat → α → Prop} : ∀ (n : Nat), (∀ i, i < n → ∃ v, p i v) → ∃ l : List α, l.length = n ∧ ∀ i v, l[i]? = some v → p i v
  | 0, _ => ⟨[], rfl, fun i v h => by simp at h⟩
  | n + 1, h => by
    obtain ⟨l, hl, hp⟩ := list_of_lt n (fun i hi => h i (by omega))
    obtain ⟨v, hv⟩ := h n (by omega)
    refine ⟨l ++ [v], by simp [hl], fun i u hu => ?_⟩
    rcases Nat.lt_or_ge i n with hi | hi
    · rw [List.getElem?_append_left (by omega)] at hu
      exact hp i u hu
    · rw [List.getElem?_append_right (by omega), hl] at hu
      have hi0 : i - n = 0 := by
        rcases Nat.eq_zero_or_pos (i - n) with h0 | h0
        · exact h0
        · rw [List.getElem?_eq_none (by simp; omega)] at hu
          cases hu
      rw [hi0] at hu
      have : i = n := by omega
      subst this
      have e : v = u := by simpa using hu
      subst e
      exact hv

theorem weightsAll_mem {H : Type} {P : Program} {e : TypeId} : ∀ {ds : List (DataW H)} {j : Nat} {d : DataW H}, ds[j]? = some d → ∀ n ∈ d.weights P e, n ∈ DataW.weightsAll P e ds
  | d0 :: ds, 0, d, hd, n, hn => by
    simp only [List.getElem?_cons_zero, Option.some.injEq] at hd
    subst hd
    simp only [DataW.weightsAll, List.mem_append]
    exact Or.inl hn
  | d0 :: ds, j + 1, d, hd, n, hn => by
    simp only [List.getElem?_cons_succ] at hd
    simp only [DataW.weightsAll, List.mem_append]
    exact Or.inr (weightsAll_mem hd n hn)
  | [], _, _, hd, _, _ => by simp at hd

theorem opens_slice {α : Type} {P : Program} {t e : TypeId} {d : Kd α} {ok : α → Prop} {B : Nat} (ht : P.underlying t = some (.slice e)) (hc : P.cellsOf t = 1) (hB : P.bytesOf e = B) (he : Opens P e d ok) :
    Opens P t (Kd.slice e d) (fun l => l.length * B ≤ 140737488351232 ∧ ∀ x ∈ l, ok x) :=
  ⟨hc, by
    intro H enc w base spare held fuel cs x h hl
    rcases DataW.trod_slice ht h with ⟨rfl, rfl⟩ | ⟨a, len, cap, elems, rest, n, _, rfl, rfl, hb, hlc, hm, hlen, hel, _, _⟩
    · exact ⟨[], ⟨none, 0, rfl, Nat.le_refl _, rfl, by simp, fun h0 => by simp at h0⟩, by simp, by simp⟩
    · have key : ∀ i, i < len → ∃ v : α, (∃ cs', w.cells? base (a.add (i * P.cellsOf e)) (P.cellsOf e) = some cs' ∧ d.K w v cs') ∧ ok v := by
        intro i hi
        have h1 := hel i hi
        rw [List.getElem?_eq_getElem (by omega)] at h1
        obtain ⟨cs', h2, h3⟩ := Option.bind_eq_some_iff.1 h1
        obtain ⟨v, hv, ho⟩ := he.opens h3 (fun m hm2 => hl m (by
          simp only [DataW.weights, ht, List.mem_cons, List.mem_append]
          exact Or.inr (Or.inl (weightsAll_mem (j := i) (by simp [List.getElem?_eq_getElem (show i < elems.length by omega)]) m hm2))))
        exact ⟨v, ⟨cs', h2, hv⟩, ho⟩
      obtain ⟨l, hll, hp⟩ := list_of_lt len key
      have hw := hl _ (by
        simp only [DataW.weights, ht]
        exact List.mem_cons_self)
      rw [hB] at hw
      refine ⟨l, ⟨some a, cap, by rw [hll], by omega, rfl, by unfold maxLen at hm; omega, fun _ => ⟨a, rfl, ?_⟩⟩, ?_, ?_⟩
      · intro j p hj
        obtain ⟨⟨cs', h2, hv⟩, _⟩ := hp j p hj
        obtain ⟨_, h4, h5⟩ := World.cells?_some h2
        refine ⟨cs', d.K_len hv, hv, fun i u hu => ?_⟩
        have hi : i < P.cellsOf e := by
          rw [← h4]
          exact (List.getElem?_eq_some_iff.1 hu).1
        rw [← hu, ← h5 i hi, he.size]
        congr 1
        simp only [Addr.add]
        split <;> split <;> split <;> first | rfl | omega | (simp; omega) | simp_all
      · have h6 : len ≤ (elems.map (·.1)).length + (rest.map (·.1)).length := by simp; omega
        rw [hll]
        exact Nat.le_trans (Nat.mul_le_mul_right B h6) hw
      · intro x hx
        obtain ⟨j, hj⟩ := List.mem_iff_getElem?.1 hx
        exact (hp j x hj).2⟩

def Parts {α : Type} (P : Program) (fs : List Field) (off total : Nat) (d : Kd α) (ok : α → Prop) : Prop :=
  ∀ {H : Type} {enc : TypeId × Value → H} {w : World} {base : Nat} {spare : Nat → Bool} {held : Bool} {n : Nat} {cs : List Value} (xs : List (DataW H × List MemPlace)), cs.length = total → xs.length = fs.length →
    (∀ (i : Nat) (f : Field), fs[i]? = some f → DataW.trod enc P w base spare held n f.type ((cs.drop f.offset).take (P.cellsOf f.type)) = xs[i]?) →
    (∀ (i : Nat) (f : Field) y, fs[i]? = some f → xs[i]? = some y → Light P f.type y.1) → ∃ v, d.K w v (cs.drop off) ∧ ok v

theorem parts_one {α : Type} {P : Program} {f : Field} {off total : Nat} {d : Kd α} {ok : α → Prop} (he : Opens P f.type d ok) (ho : f.offset = off) (hs : off + d.sz = total) : Parts P [f] off total d ok := by
  intro H enc w base spare held n cs xs hl hx h hw
  match xs, hx with
  | [y], _ =>
    have h0 := h 0 f rfl
    obtain ⟨v, hv, hk⟩ := he.opens h0 (hw 0 f y rfl rfl)
    refine ⟨v, ?_, hk⟩
    rw [ho, List.take_of_length_le (by rw [List.length_drop, he.size]; omega)] at hv
    exact hv
theorem parts_cons {α β : Type} {P : Program} {f : Field} {fs : List Field} {off total : Nat} {d : Kd α} {d2 : Kd β} {ok : α → Prop} {ok2 : β → Prop} (he : Opens P f.type d ok) (ho : f.offset = off) (h2 : Parts P fs (off + d.sz) total d2 ok2) :
    Parts P (f :: fs) off total (Kd.pair d d2) (fun p => ok p.1 ∧ ok2 p.2) := by
  intro H enc w base spare held n cs xs hl hx h hw
  match xs, hx with
  | y :: ys, hy =>
    have h0 := h 0 f rfl
    obtain ⟨v, hv, hk⟩ := he.opens h0 (hw 0 f y rfl rfl)
    obtain ⟨u, hu, hk2⟩ := h2 ys hl (by simpa using hy) (fun i g hg => h (i + 1) g (by simpa using hg)) (fun i g z hg hz => hw (i + 1) g z (by simpa using hg) (by simpa using hz))
    refine ⟨(v, u), ⟨_, _, ?_, hv, hu⟩, hk, hk2⟩
    rw [ho, he.size, ← List.drop_drop]
    exact (List.take_append_drop d.sz (cs.drop off)).symm
theorem opens_struct {α β : Type} {P : Program} {t : TypeId} {fs : Array Field} {d : Kd α} {ok : α → Prop} (ht : P.underlying t = some (.struct fs)) (hc : P.cellsOf t = d.sz) (h2 : Parts P fs.toList 0 (P.cellsOf t) d ok) (f : β → α) (g : α → β) (hfg : ∀ v, f (g v) = v) :
    Opens P t (Kd.iso d f) (fun x => ok (f x)) :=
  ⟨hc, by
    intro H enc w base spare held fuel cs x h hl
    obtain ⟨xs, n, _, rfl, hcl, hxl, hf⟩ := DataW.trod_struct ht h
    obtain ⟨v, hv, hk⟩ := h2 (cs := cs) xs hcl (by simpa using hxl) (fun i fd hi => hf i fd (by simpa using hi)) (fun i fd y hi hy m hm => hl m (by
      simp only [DataW.weights, ht]
      exact DataW.weights_mem_each (j := i) (by rw [List.getElem?_map, hi]; rfl) (by rw [List.getElem?_map, hy]; rfl) m hm))
    refine ⟨g v, ?_, ?_⟩
    · show d.K w (f (g v)) cs
      rw [hfg]
      simpa using hv
    · show ok (f (g v))
      rw [hfg]
      exact hk⟩

theorem light_of {H : Type} {P : Program} {ts : List TypeId} {ds : List (DataW H)} (hsz : (DataW.weightsEach P ts ds).all (· ≤ reachBytes) = true) {j : Nat} {t : TypeId} {d : DataW H} (ht : ts[j]? = some t) (hd : ds[j]? = some d) : Light P t d := by
  intro n hn
  have h1 := List.all_eq_true.1 hsz n (DataW.weights_mem_each ht hd n hn)
  have h2 : n ≤ reachBytes := by simpa using h1
  exact Nat.le_trans h2 (by decide)
end Go.Proofs.Ytihfopblmjgfaaa.Open

/- The row of HeadsegEncodes, out of its pure law (Pure.HeadsegEncodes) and the contract of the function; no condition. Written by wip/tools/lawrow.py of this session. -/
namespace Go.Proofs.Ytihfopblmjgfaaa.headsegEncodes
open Go.ChangeShapes Go.WideShapes Go.ChangeAt Go.RowKit Go.Proofs.Ytihfopblmjgfaaa.Q Go.Proofs.YtihfopblmjgfaaaW.PrintWords Go.Proofs.Ytihfopblmjgfaaa.Open
open Go.ChangeMaps (open_string shut_string)
set_option linter.unusedVariables false
theorem own : ownKnob Try.prog.godebug = none := by kernel_rfl
theorem laidOut : laidOutB Try.prog = true := by kernel_rfl
set_option maxRecDepth 100000 in
theorem lifted (os : Os) (started : os.Started) (H : Type) (enc : TypeId × Value → H) :
    ReturnsInHanded {} Try.checked os 10 .any (Rows.headsegEncodesSpec.pre6 enc Try.prog Try.f10 Rows.headsegEncodesRow.domain false) (Rows.headsegEncodesSpec.post enc Try.prog Try.f10 false true false false) := by
  refine returnsInHanded_of_change_sized (C := Try.checked) own started (by kernel_rfl) Try.func10
    (ChangeSpec.witness6 (enc := enc) (C := Try.checked) false ⟨#[], #[.agg #[.int .i64 0, .slice none 0 0]], []⟩ 8 (by kernel_rfl) (by kernel_rfl) (by kernel_rfl) (by kernel_rfl)) ?_
  intro W base args ds gs before hval0 hW hcnd hsz0 _
  have hsz : (DataW.weightsEach Try.prog (Try.f10.params.toList ++ Rows.headsegEncodesSpec.plain.varTypes Try.prog) (ds ++ gs)).all (· ≤ reachBytes) = true := hsz0
  have hval : ∀ (j : Nat) t v, Try.f10.params[j]? = some t → args[j]? = some v → Value.okWide Try.prog W .any base t v := hval0
  have hW' := hW
  obtain ⟨p, q, hA0, hV, rfl, hfz, hnd⟩ := hW
  have hA : DataW.TrodAll enc Try.prog W 0 (fun _ => true) true Try.f10.params.toList args.toList ds p := hA0
  rw [Try.params10] at hA hval hsz
  obtain ⟨v0, vs0, d0, ds0, p0, q0, hargs, rfl, rfl, h0, r0⟩ := trodAll_cons hA
  obtain ⟨rfl, rfl, rfl⟩ := trodAll_nil r0
  obtain rfl : args = #[v0] := by cases args; simp_all
  obtain ⟨rfl, rfl⟩ := trodVars_none hV
  have k0 := h0
  have lt0 : ∀ x ∈ p0, x.block < W.heap.size := by obtain ⟨m, hm⟩ := k0; exact DataW.trod_lt m _ _ _ hm
  have li0 := light_of hsz (j := 0) (t := 26) rfl rfl
  obtain ⟨fu0, hf0⟩ := h0
  obtain ⟨v0_, hK0, hok0⟩ := (opens_struct Try.underlying26 (by kernel_rfl) (parts_cons (opens_int Try.underlying3 (by kernel_rfl)) rfl (parts_one (opens_slice (B := 1) Try.underlying24 (by kernel_rfl) (by kernel_rfl) (opens_int Try.underlying5 (by kernel_rfl))) rfl (by kernel_rfl))) (fun v => v) (fun v => v) (fun _ => rfl)).opens hf0 li0
  obtain ⟨cs0, rfl, _⟩ := okWide_struct Try.underlying26 (hval 0 26 v0 rfl rfl)
  obtain ⟨_, _, hcs0, rfl, ⟨A0_1, c0_1, rfl, hl0_1, hC0_1⟩⟩ := hK0
  obtain rfl : cs0 = #[.int .i64 v0_.1, .slice A0_1 v0_.2.length c0_1] := by cases cs0; simpa [Value.cells] using hcs0
  clear hcs0
  obtain ⟨w0_0, ⟨y0_1, w0_1⟩⟩ := hok0
  clear hA0 hval0 hsz0 hsz
  obtain ⟨k, hp⟩ := Pure.HeadsegEncodes (v0_.1) (v0_.2) w0_0 y0_1 w0_1
  refine (waveletlaw29_HeadsegEncodes.calls k (v0_.1) _ _ (v0_.2) true rfl W hC0_1 hl0_1 hp).mono fun e W' he_ => ?_
  obtain ⟨he, bel⟩ := he_
  subst he
  exact ⟨_, rfl, _, _, _, [], _, [], hW', trodAll_mk1 (shut_bool Try.underlying4 _), (trodAll_cons_mk (Below.trod laidOut (by kernel_rfl) (of_decide_eq_true (by kernel_rfl)) k0 bel lt0) trodAll_mk0), rfl, bel.frame _, fun h => by cases h⟩
theorem over : Rows.headsegEncodesRow.holds Try.pinned (OpenSpec.ofChange Rows.headsegEncodesSpec) :=
  OpenClaim.holds_of_wide 10 Try.f10 rfl rfl rfl rfl rfl rfl rfl ⟨rfl, rfl, rfl, rfl, rfl⟩ rfl rfl rfl rfl rfl (by kernel_rfl) Try.func10 (by kernel_rfl)
    (of_decide_eq_true (by kernel_rfl)) (by unfold Func.isWrapper; first | (rw [if_pos (by decide +kernel)]; kernel_rfl) | (rw [if_neg (by decide +kernel)]; exact ⟨rfl, rfl⟩))
    (fun os started H enc _ => lifted os started H enc)
theorem proved : Rows.HeadsegEncodesSaid := over
end Go.Proofs.Ytihfopblmjgfaaa.headsegEncodes
namespace Go.Proofs.Ytihfopblmjgfaaa
/-- The row, under a short name, for the claim. -/
theorem headsegEncodes_holds : Rows.HeadsegEncodesSaid := headsegEncodes.proved
#print axioms headsegEncodes_holds
end Go.Proofs.Ytihfopblmjgfaaa
