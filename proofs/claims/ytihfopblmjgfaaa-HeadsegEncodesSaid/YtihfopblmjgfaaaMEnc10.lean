/- Texts of this session (words and printed walks, merged by wip/tools/merge.py) for the statement of the claim. -/
import Derived.Test.YtihfopblmjgfaaaMEnc1
import Derived.Test.YtihfopblmjgfaaaMEnc2
import Derived.Test.YtihfopblmjgfaaaMEnc5
import Derived.Test.YtihfopblmjgfaaaMEnc6
import Derived.Test.YtihfopblmjgfaaaMEnc7
import Derived.Test.YtihfopblmjgfaaaMEnc8
import Derived.Test.YtihfopblmjgfaaaMEnc9
import Derived.Laws.BitsLemmas
/- The law function HeadsegEncodes. Printed by wip/tools/genLawE.py of this session. -/
namespace Go.Proofs.Ytihfopblmjgfaaa.Q
open Go.RowKit Go.Proofs.YtihfopblmjgfaaaW.PrintWords Go.Proofs.YtihfopblmjgfaaaW.PrintLast Go.Proofs.YtihfopblmjgfaaaW.PrintMore
set_option linter.unusedVariables false
set_option linter.unusedSimpArgs false

open Classical in
/-- A reading, and where it is good the writing of what was read. -/
noncomputable def stage {α β : Type} (P : Option α) (ok : α → Prop) (E : α → Option β) (v : β) (S nx : Option Bool) : Option Bool :=
  P.bind fun g => if ok g then (E g).bind fun a => if a = v then S.bind fun t => if t = true then nx else none else none else nx
theorem stage_h {α β : Type} {P : Option α} {ok : α → Prop} {E : α → Option β} {v : β} {S nx : Option Bool} (h : stage P ok E v S nx = some true) : ∃ g, P = some g ∧ nx = some true ∧ (ok g → E g = some v ∧ S = some true) := by
  unfold stage at h
  obtain ⟨g, hg, h⟩ := Option.bind_eq_some_iff.mp h
  refine ⟨g, hg, ?_⟩
  by_cases e : ok g
  · rw [if_pos e] at h
    obtain ⟨a, ha, h⟩ := Option.bind_eq_some_iff.mp h
    by_cases e2 : a = v
    · rw [if_pos e2] at h
      obtain ⟨t, ht, h⟩ := Option.bind_eq_some_iff.mp h
      cases t
      · simp at h
      · exact ⟨by simpa using h, fun _ => ⟨e2 ▸ ha, ht⟩⟩
    · rw [if_neg e2] at h; cases h
  · rw [if_neg e] at h
    exact ⟨h, fun e' => absurd e' e⟩
noncomputable def encLen (k : Nat) (a0_0 : Int) (l0_1 : List Int) : Option Bool :=
  stage (headseg_ParseLengths.f k [(⟨a0_0, l0_1⟩ : S26)]) (fun g => g.2 = 0) (fun g => headseg_Lengths.f k a0_0 g.1) ([(⟨a0_0, l0_1⟩ : S26)], 0) (waveletlaw29_sameSegments.f k [(⟨a0_0, l0_1⟩ : S26)] [(⟨a0_0, l0_1⟩ : S26)]) (waveletlaw29_awake.f k)
noncomputable def encCom (k : Nat) (a0_0 : Int) (l0_1 : List Int) : Option Bool :=
  stage (headseg_ParseComment.f a0_0 l0_1) (fun g => g.2 = 0) (fun g => headseg_Comment.f g.1) (a0_0, l0_1, 0) (waveletlaw29_sameSegment.f k a0_0 l0_1 a0_0 l0_1) (encLen k a0_0 l0_1)
noncomputable def encTile (k : Nat) (a0_0 : Int) (l0_1 : List Int) : Option Bool :=
  stage (headseg_ParseTile.f k a0_0 l0_1) (fun g => g.2.2.2.2 = 0) (fun g => headseg_Tile.f k g.1 g.2.1 g.2.2.1 g.2.2.2.1) (a0_0, l0_1, 0) (waveletlaw29_sameSegment.f k a0_0 l0_1 a0_0 l0_1) (encCom k a0_0 l0_1)
noncomputable def encQuant (k : Nat) (a0_0 : Int) (l0_1 : List Int) : Option Bool :=
  stage (headseg_ParseQuant.f k a0_0 l0_1 0 0 0 0 0 [] 0 0 false false false false false false false false [] 0 0) (fun g => g.2.2.2.2.2.2.2.2.2.2.2.2.2.2.2.2.2.2.2 = 0) (fun g => headseg_Quant.f k g.1 g.2.1 g.2.2.1 g.2.2.2.1 g.2.2.2.2.1 g.2.2.2.2.2.1 g.2.2.2.2.2.2.1 g.2.2.2.2.2.2.2.1 g.2.2.2.2.2.2.2.2.1 g.2.2.2.2.2.2.2.2.2.1 g.2.2.2.2.2.2.2.2.2.2.1 g.2.2.2.2.2.2.2.2.2.2.2.1 g.2.2.2.2.2.2.2.2.2.2.2.2.1 g.2.2.2.2.2.2.2.2.2.2.2.2.2.1 g.2.2.2.2.2.2.2.2.2.2.2.2.2.2.1 g.2.2.2.2.2.2.2.2.2.2.2.2.2.2.2.1 g.2.2.2.2.2.2.2.2.2.2.2.2.2.2.2.2.1 g.2.2.2.2.2.2.2.2.2.2.2.2.2.2.2.2.2.1 g.2.2.2.2.2.2.2.2.2.2.2.2.2.2.2.2.2.2.1) (a0_0, l0_1, 0) (waveletlaw29_sameSegment.f k a0_0 l0_1 a0_0 l0_1) (encTile k a0_0 l0_1)
noncomputable def encCod (k : Nat) (a0_0 : Int) (l0_1 : List Int) : Option Bool :=
  stage (headseg_ParseCoding.f k a0_0 l0_1) (fun g => g.2.2.2.2.2.2.2.2.2.2.2.2.2.2.2.2.2.2.2 = 0) (fun g => headseg_Coding.f k g.1 g.2.1 g.2.2.1 g.2.2.2.1 g.2.2.2.2.1 g.2.2.2.2.2.1 g.2.2.2.2.2.2.1 g.2.2.2.2.2.2.2.1 g.2.2.2.2.2.2.2.2.1 g.2.2.2.2.2.2.2.2.2.1 g.2.2.2.2.2.2.2.2.2.2.1 g.2.2.2.2.2.2.2.2.2.2.2.1 g.2.2.2.2.2.2.2.2.2.2.2.2.1 g.2.2.2.2.2.2.2.2.2.2.2.2.2.1 g.2.2.2.2.2.2.2.2.2.2.2.2.2.2.1 g.2.2.2.2.2.2.2.2.2.2.2.2.2.2.2.1 g.2.2.2.2.2.2.2.2.2.2.2.2.2.2.2.2.1 g.2.2.2.2.2.2.2.2.2.2.2.2.2.2.2.2.2.1 g.2.2.2.2.2.2.2.2.2.2.2.2.2.2.2.2.2.2.1) (a0_0, l0_1, 0) (waveletlaw29_sameSegment.f k a0_0 l0_1 a0_0 l0_1) (encQuant k a0_0 l0_1)
noncomputable def waveletlaw29_HeadsegEncodes.f (k : Nat) (a0_0 : Int) (l0_1 : List Int) : Option (Bool) :=
  (waveletlaw29_long.f a0_0 l0_1).bind fun t => if t = true then waveletlaw29_awake.f k else
    stage (headseg_ParseSize.f k a0_0 l0_1) (fun g => g.2.2.2.2.2.2.2 = 0) (fun g => headseg_Size.f k g.1 g.2.1 g.2.2.1 g.2.2.2.1 g.2.2.2.2.1 g.2.2.2.2.2.1 g.2.2.2.2.2.2.1) (a0_0, l0_1, 0) (waveletlaw29_sameSegment.f k a0_0 l0_1 a0_0 l0_1) (encCod k a0_0 l0_1)
theorem C26_one {w : World} {g : Nat} {c : Int} {A : Option Addr} {cap : Nat} {l : List Int} (hb : w.heap[g]? = some (.cells #[.int .i64 c, .slice A l.length cap] 26 (0, 0))) (hl : l.length ≤ cap) (hC : Kd.C (Kd.int .u8) w A l.length l) : Kd.C k26 w (some ⟨g, 0, none⟩) [(⟨c, l⟩ : S26)].length [(⟨c, l⟩ : S26)] :=
  ⟨rfl, by simp, fun _ => ⟨⟨g, 0, none⟩, rfl, fun j p hj => by
    match j, hj with
    | 0, hj =>
      obtain rfl : (⟨c, l⟩ : S26) = p := by simpa using hj
      refine ⟨_, rfl, k26_mk w ⟨c, l⟩ hl hC, fun i u hu => ?_⟩
      have h := blk_cell hb i
      have e : (Addr.add ⟨g, 0, none⟩ (0 * k26.sz + i)) = ⟨g, i, none⟩ := by
        simp [Addr.add]
        intro h0
        exact h0.symm
      rw [e, h]
      simpa using hu
    | j + 1, hj => simp at hj⟩⟩
set_option maxHeartbeats 8000000 in
set_option maxRecDepth 100000 in
theorem waveletlaw29_HeadsegEncodes.calls (k : Nat) (a0_0 : Int) (A0_1 : Option Addr) (c0_1 : Nat) (l0_1 : List Int) (r : Bool) (hr_ : r = true) (w : World) (hr0_1 : Kd.C (Kd.int .u8) w A0_1 l0_1.length l0_1) (hc0_1 : l0_1.length ≤ c0_1) (h : waveletlaw29_HeadsegEncodes.f k a0_0 l0_1 = some r) :
    Calls Try.prog 10 #[.agg #[.int .i64 a0_0, .slice A0_1 l0_1.length c0_1]] w fun e w' => e = .returned (.bool r) ∧ Below w.heap.size w w' := by
  subst hr_
  have HR1 := Aside0.mk hr0_1
  have HC1 := Aside0.mk hc0_1
  clear hr0_1 hc0_1
  have K00 := Aside0.mk (Bks.nil w)
  go_enter Try.func10, Try.ntmps10
  unfold waveletlaw29_HeadsegEncodes.f at h
  obtain ⟨t, hl, h⟩ := Option.bind_eq_some_iff.mp h
  have HL := Aside0.mk hl
  clear hl
  cases t with
  | true =>
    rw [if_pos rfl] at h
    have HA := Aside0.mk h
    clear h
    go_wp2_with (first | ((with_reducible refine gate_dst (N := 1) rfl ?_); refine box_event ?hg (N := 1) ?hd (cs := #[.int .i64 a0_0, .slice A0_1 l0_1.length c0_1]) (t := 26) ?hr ?_; (case hd => rfl); (case hg => rfl); (case hr => first | (go_simp; done) | (go_simp; rfl)); intro g1 hg W1 hbox hb; have K := Aside0.mk (K00.out.box (Nat.le_refl _) hg hbox hb); clear hg hbox hb K00) | ((with_reducible refine gate_dst (N := 30) rfl ?_); refine load_ev rfl 26 (.tmp 1) rfl rfl (K.out.get 0 rfl) Try.underlying26 rfl ?_) | (go_at_call 11; refine (waveletlaw29_long.calls a0_0 A0_1 c0_1 l0_1 true _ (Kd.C_below HR1.out K.out.below) HC1.out HL.out).mono ?_; rintro _ w2 ⟨rfl, b⟩; have K' := Aside0.mk (K.out.call (below_size K.out.below) b); clear K; have K := K'; clear K'; clear b) | (go_at_call 12; refine (waveletlaw29_awake.calls k true _ HA.out).mono ?_; rintro _ w' ⟨rfl, b⟩; have Kw := Aside0.mk (K.out.call (below_size K.out.below) b); clear b))
    go_ret
    exact ⟨rfl, Kw.out.below⟩
  | false =>
  rw [if_neg (by simp)] at h
  obtain ⟨⟨y0, y1, y2, y3, y4, y5, y6, ye⟩, hp1, h, he1⟩ := stage_h h
  obtain ⟨⟨c0, c1, c2, c3, c4, c5, c6, c7, c8, c9, c10, c11, c12, c13, c14, c15, c16, c17, c18, ce⟩, hp2, h, he2⟩ := stage_h h
  obtain ⟨⟨q0, q1, q2, q3, q4, q5, q6, q7, q8, q9, q10, q11, q12, q13, q14, q15, q16, q17, q18, qe⟩, hp3, h, he3⟩ := stage_h h
  obtain ⟨⟨t0, t1, t2, t3, te⟩, hp4, h, he4⟩ := stage_h h
  obtain ⟨⟨m0, me⟩, hp5, h, he5⟩ := stage_h h
  obtain ⟨⟨n0, ne⟩, hp6, h, he6⟩ := stage_h h
  simp only at he1 he2 he3 he4 he5 he6
  have HA := Aside0.mk h
  have P1 := Aside0.mk hp1
  have E1 := Aside0.mk he1
  have P2 := Aside0.mk hp2
  have E2 := Aside0.mk he2
  have P3 := Aside0.mk hp3
  have E3 := Aside0.mk he3
  have P4 := Aside0.mk hp4
  have E4 := Aside0.mk he4
  have P5 := Aside0.mk hp5
  have E5 := Aside0.mk he5
  have P6 := Aside0.mk hp6
  have E6 := Aside0.mk he6
  clear h hp1 he1 hp2 he2 hp3 he3 hp4 he4 hp5 he5 hp6 he6
  go_wp2_with (first | ((with_reducible refine gate_dst (N := 1) rfl ?_); refine box_event ?hg (N := 1) ?hd (cs := #[.int .i64 a0_0, .slice A0_1 l0_1.length c0_1]) (t := 26) ?hr ?_; (case hd => rfl); (case hg => rfl); (case hr => first | (go_simp; done) | (go_simp; rfl)); intro g1 hg W1 hbox hb; have K := Aside0.mk (K00.out.box (Nat.le_refl _) hg hbox hb); clear hg hbox hb K00) | ((with_reducible refine gate_dst (N := 30) rfl ?_); refine load_ev rfl 26 (.tmp 1) rfl rfl (K.out.get 0 rfl) Try.underlying26 rfl ?_) | (go_at_call 11; refine (waveletlaw29_long.calls a0_0 A0_1 c0_1 l0_1 false _ (Kd.C_below HR1.out K.out.below) HC1.out HL.out).mono ?_; rintro _ w2 ⟨rfl, b⟩; have K' := Aside0.mk (K.out.call (below_size K.out.below) b); clear K; have K := K'; clear K'; clear b) | ((with_reducible refine gate_dst (N := 34) rfl ?_); refine load_ev rfl 26 (.tmp 1) rfl rfl (K.out.get 0 rfl) Try.underlying26 rfl ?_) | (go_at_call 39; fail))
  refine (headseg_ParseSize.calls k a0_0 A0_1 c0_1 l0_1 y0 y1 y2 y3 y4 y5 y6 ye _ (Kd.C_below HR1.out K.out.below) HC1.out P1.out).mono ?_
  rintro _ w4 ⟨v6, rfl, r6, b⟩
  obtain ⟨Y6, kY6, rfl⟩ := Kd.R_slice r6
  have Ry := Aside0.mk (Kd.R_lower r6 (below_size K.out.below))
  have K' := Aside0.mk (K.out.call (below_size K.out.below) b)
  clear K
  have K := K'
  clear K'
  clear b r6
  go_upto_if 39 with (first | ((with_reducible refine gate_dst (N := 3) rfl ?_); refine box_event ?hg (N := 3) ?hd (cs := #[.int .i64 0, .int .i64 0, .int .i64 0, .int .i64 0, .int .i64 0, .int .i64 0, .slice none 0 0]) (t := 67) ?hr ?_; (case hd => rfl); (case hg => rfl); (case hr => first | (go_simp; done) | (go_simp; rfl)); intro g3 hg W3 hbox hb; have Ry' := Aside0.mk (Kd.R_below Ry.out hb); clear Ry; have Ry := Ry'; clear Ry'; have K' := Aside0.mk (K.out.box (below_size K.out.below) hg hbox hb); clear K; have K := K'; clear K'; clear hg hbox hb) | ((with_reducible refine gate_store (t := 67) (p := 3) (v := .tmp 36) rfl ?_); refine store_ev rfl rfl 67 (.tmp 3) (.tmp 36) rfl rfl rfl (K.out.get 0 rfl) rfl rfl (by first | (kernel_rfl) | (simp [Value.oneCell'])) ?_; intro S36 hs; have Ry' := Aside0.mk (row_stored Ry.out (K.out.get 0 rfl) (by decide) hs); clear Ry; have Ry := Ry'; clear Ry'; have K' := Aside0.mk (K.out.stored 0 rfl hs); clear K; have K := K'; clear K'; clear hs))
  go_cut [] (fun wc => Aside0 (Bks w.heap.size w wc [(g1, 26, #[.int .i64 a0_0, .slice A0_1 l0_1.length c0_1])]))
  case first =>
    by_cases he : ye = 0
    rotate_left
    · have hb0 : (ye == 0) = false := beq_eq_false_iff_ne.mpr he
      (try rw [hb0])
      go_wp2
      go_meet
      case rel => exact ⟨K.out.tl⟩
    obtain ⟨hG, hS⟩ := E1.out he
    have HG := Aside0.mk hG
    have HS := Aside0.mk hS
    clear hG hS
    subst he
    go_wp2_with (first | ((with_reducible refine gate_dst (N := 41) rfl ?_); refine load_ev rfl 67 (.tmp 3) rfl rfl (K.out.get 0 rfl) Try.underlying67 rfl ?_) | (go_at_call 37; fail))
    refine (headseg_Size.calls k y0 y1 y2 y3 y4 y5 Y6 kY6 y6 a0_0 l0_1 0 _ (Kd.R_reads' Ry.out).2.2 (Kd.R_reads' Ry.out).2.1 HG.out).mono ?_
    rintro _ w5 ⟨v1, rfl, r1, b⟩
    obtain ⟨Aa, ca, rfl⟩ := Kd.R_slice r1
    have Ry' := Aside0.mk (Kd.R_below Ry.out b)
    clear Ry
    have Ry := Ry'
    clear Ry'
    have Ra := Aside0.mk (Kd.R_lower r1 (below_size K.out.below))
    have K' := Aside0.mk (K.out.call (below_size K.out.below) b)
    clear K
    have K := K'
    clear K'
    clear b r1
    go_wp2_with (first | ((with_reducible refine gate_dst (N := 5) rfl ?_); refine box_event ?hg (N := 5) ?hd (cs := #[.int .i64 0, .slice none 0 0]) (t := 26) ?hr ?_; (case hd => rfl); (case hg => rfl); (case hr => first | (go_simp; done) | (go_simp; rfl)); intro g5 hg W5 hbox hb; have Ry' := Aside0.mk (Kd.R_below Ry.out hb); clear Ry; have Ry := Ry'; clear Ry'; have Ra' := Aside0.mk (Kd.R_below Ra.out hb); clear Ra; have Ra := Ra'; clear Ra'; have K' := Aside0.mk (K.out.box (below_size K.out.below) hg hbox hb); clear K; have K := K'; clear K'; clear hg hbox hb) | ((with_reducible refine gate_store (t := 26) (p := 5) (v := .tmp 43) rfl ?_); refine store_ev rfl rfl 26 (.tmp 5) (.tmp 43) rfl rfl rfl (K.out.get 0 rfl) rfl rfl (by first | (kernel_rfl) | (simp [Value.oneCell'])) ?_; intro S43 hs; have Ry' := Aside0.mk (row_stored Ry.out (K.out.get 0 rfl) (by decide) hs); clear Ry; have Ry := Ry'; clear Ry'; have Ra' := Aside0.mk (row_stored Ra.out (K.out.get 0 rfl) (by decide) hs); clear Ra; have Ra := Ra'; clear Ra'; have K' := Aside0.mk (K.out.stored 0 rfl hs); clear K; have K := K'; clear K'; clear hs) | ((with_reducible refine gate_dst (N := 48) rfl ?_); (try (refine gate_guard (by rfl) ?_; dsimp only)); refine load_ev rfl 26 (.tmp 1) rfl rfl (K.out.get 2 rfl) Try.underlying26 rfl ?_) | ((with_reducible refine gate_dst (N := 49) rfl ?_); (try (refine gate_guard (by rfl) ?_; dsimp only)); refine load_ev rfl 26 (.tmp 5) rfl rfl (K.out.get 0 rfl) Try.underlying26 rfl ?_) | (go_at_call 17; fail))
    refine (waveletlaw29_sameSegment.calls k a0_0 A0_1 c0_1 l0_1 a0_0 Aa ca l0_1 true _ (Kd.C_below HR1.out K.out.below) HC1.out (Kd.R_reads' Ra.out).2.2 (Kd.R_reads' Ra.out).2.1 HS.out).mono ?_
    rintro _ w6 ⟨rfl, b⟩
    have K' := Aside0.mk (K.out.call (below_size K.out.below) b)
    clear K
    have K := K'
    clear K'
    clear b 
    go_wp2
    go_meet
    case rel => exact ⟨K.out.tl.tl⟩
  case rest =>
  clear K P1 E1 Ry
  have K := hcut
  clear hcut
  generalize wc = wc1 at *
  go_wp2_with (first | ((with_reducible refine gate_dst (N := 54) rfl ?_); refine load_ev rfl 26 (.tmp 1) rfl rfl (K.out.get 0 rfl) Try.underlying26 rfl ?_) | (go_at_call 35; fail))
  refine (headseg_ParseCoding.calls k a0_0 A0_1 c0_1 l0_1 c0 c1 c2 c3 c4 c5 c6 c7 c8 c9 c10 c11 c12 c13 c14 c15 c16 c17 c18 ce _ (Kd.C_below HR1.out K.out.below) HC1.out P2.out).mono ?_
  rintro _ w4 ⟨v5, v16, rfl, r5, r16, b⟩
  obtain ⟨C5, kC5, rfl⟩ := Kd.R_slice r5
  obtain ⟨C16, kC16, rfl⟩ := Kd.R_slice r16
  have Rc5 := Aside0.mk (Kd.R_lower r5 (below_size K.out.below))
  have Rc16 := Aside0.mk (Kd.R_lower r16 (below_size K.out.below))
  have K' := Aside0.mk (K.out.call (below_size K.out.below) b)
  clear K
  have K := K'
  clear K'
  clear b r5 r16
  go_upto_if 59 with (first | ((with_reducible refine gate_dst (N := 7) rfl ?_); refine box_event ?hg (N := 7) ?hd (cs := #[.int .i64 0, .int .i64 0, .int .i64 0, .int .i64 0, .int .i64 0, .slice none 0 0, .int .i64 0, .int .i64 0, .bool false, .bool false, .bool false, .bool false, .bool false, .bool false, .bool false, .bool false, .slice none 0 0, .int .i64 0, .int .i64 0]) (t := 55) ?hr ?_; (case hd => rfl); (case hg => rfl); (case hr => first | (go_simp; done) | (go_simp; rfl)); intro g7 hg W7 hbox hb; have Rc5' := Aside0.mk (Kd.R_below Rc5.out hb); clear Rc5; have Rc5 := Rc5'; clear Rc5'; have Rc16' := Aside0.mk (Kd.R_below Rc16.out hb); clear Rc16; have Rc16 := Rc16'; clear Rc16'; have K' := Aside0.mk (K.out.box (below_size K.out.below) hg hbox hb); clear K; have K := K'; clear K'; clear hg hbox hb) | ((with_reducible refine gate_store (t := 55) (p := 7) (v := .tmp 56) rfl ?_); refine store_ev rfl rfl 55 (.tmp 7) (.tmp 56) rfl rfl rfl (K.out.get 0 rfl) rfl rfl (by first | (kernel_rfl) | (simp [Value.oneCell'])) ?_; intro S56 hs; have Rc5' := Aside0.mk (row_stored Rc5.out (K.out.get 0 rfl) (by decide) hs); clear Rc5; have Rc5 := Rc5'; clear Rc5'; have Rc16' := Aside0.mk (row_stored Rc16.out (K.out.get 0 rfl) (by decide) hs); clear Rc16; have Rc16 := Rc16'; clear Rc16'; have K' := Aside0.mk (K.out.stored 0 rfl hs); clear K; have K := K'; clear K'; clear hs))
  go_cut [] (fun wc => Aside0 (Bks w.heap.size w wc [(g1, 26, #[.int .i64 a0_0, .slice A0_1 l0_1.length c0_1])]))
  case first =>
    by_cases he : ce = 0
    rotate_left
    · have hb0 : (ce == 0) = false := beq_eq_false_iff_ne.mpr he
      (try rw [hb0])
      go_wp2
      go_meet
      case rel => exact ⟨K.out.tl⟩
    obtain ⟨hG, hS⟩ := E2.out he
    have HG := Aside0.mk hG
    have HS := Aside0.mk hS
    clear hG hS
    subst he
    go_wp2_with (first | ((with_reducible refine gate_dst (N := 61) rfl ?_); refine load_ev rfl 55 (.tmp 7) rfl rfl (K.out.get 0 rfl) Try.underlying55 rfl ?_) | (go_at_call 33; fail))
    refine (headseg_Coding.calls k c0 c1 c2 c3 c4 C5 kC5 c5 c6 c7 c8 c9 c10 c11 c12 c13 c14 c15 C16 kC16 c16 c17 c18 a0_0 l0_1 0 _ (Kd.R_reads' Rc5.out).2.2 (Kd.R_reads' Rc5.out).2.1 (Kd.R_reads' Rc16.out).2.2 (Kd.R_reads' Rc16.out).2.1 HG.out).mono ?_
    rintro _ w5 ⟨v1, rfl, r1, b⟩
    obtain ⟨Aa, ca, rfl⟩ := Kd.R_slice r1
    have Rc5' := Aside0.mk (Kd.R_below Rc5.out b)
    clear Rc5
    have Rc5 := Rc5'
    clear Rc5'
    have Rc16' := Aside0.mk (Kd.R_below Rc16.out b)
    clear Rc16
    have Rc16 := Rc16'
    clear Rc16'
    have Ra := Aside0.mk (Kd.R_lower r1 (below_size K.out.below))
    have K' := Aside0.mk (K.out.call (below_size K.out.below) b)
    clear K
    have K := K'
    clear K'
    clear b r1
    go_wp2_with (first | ((with_reducible refine gate_dst (N := 9) rfl ?_); refine box_event ?hg (N := 9) ?hd (cs := #[.int .i64 0, .slice none 0 0]) (t := 26) ?hr ?_; (case hd => rfl); (case hg => rfl); (case hr => first | (go_simp; done) | (go_simp; rfl)); intro g9 hg W9 hbox hb; have Rc5' := Aside0.mk (Kd.R_below Rc5.out hb); clear Rc5; have Rc5 := Rc5'; clear Rc5'; have Rc16' := Aside0.mk (Kd.R_below Rc16.out hb); clear Rc16; have Rc16 := Rc16'; clear Rc16'; have Ra' := Aside0.mk (Kd.R_below Ra.out hb); clear Ra; have Ra := Ra'; clear Ra'; have K' := Aside0.mk (K.out.box (below_size K.out.below) hg hbox hb); clear K; have K := K'; clear K'; clear hg hbox hb) | ((with_reducible refine gate_store (t := 26) (p := 9) (v := .tmp 63) rfl ?_); refine store_ev rfl rfl 26 (.tmp 9) (.tmp 63) rfl rfl rfl (K.out.get 0 rfl) rfl rfl (by first | (kernel_rfl) | (simp [Value.oneCell'])) ?_; intro S63 hs; have Rc5' := Aside0.mk (row_stored Rc5.out (K.out.get 0 rfl) (by decide) hs); clear Rc5; have Rc5 := Rc5'; clear Rc5'; have Rc16' := Aside0.mk (row_stored Rc16.out (K.out.get 0 rfl) (by decide) hs); clear Rc16; have Rc16 := Rc16'; clear Rc16'; have Ra' := Aside0.mk (row_stored Ra.out (K.out.get 0 rfl) (by decide) hs); clear Ra; have Ra := Ra'; clear Ra'; have K' := Aside0.mk (K.out.stored 0 rfl hs); clear K; have K := K'; clear K'; clear hs) | ((with_reducible refine gate_dst (N := 68) rfl ?_); (try (refine gate_guard (by rfl) ?_; dsimp only)); refine load_ev rfl 26 (.tmp 1) rfl rfl (K.out.get 2 rfl) Try.underlying26 rfl ?_) | ((with_reducible refine gate_dst (N := 69) rfl ?_); (try (refine gate_guard (by rfl) ?_; dsimp only)); refine load_ev rfl 26 (.tmp 9) rfl rfl (K.out.get 0 rfl) Try.underlying26 rfl ?_) | (go_at_call 17; fail))
    refine (waveletlaw29_sameSegment.calls k a0_0 A0_1 c0_1 l0_1 a0_0 Aa ca l0_1 true _ (Kd.C_below HR1.out K.out.below) HC1.out (Kd.R_reads' Ra.out).2.2 (Kd.R_reads' Ra.out).2.1 HS.out).mono ?_
    rintro _ w6 ⟨rfl, b⟩
    have K' := Aside0.mk (K.out.call (below_size K.out.below) b)
    clear K
    have K := K'
    clear K'
    clear b 
    go_wp2
    go_meet
    case rel => exact ⟨K.out.tl.tl⟩
  case rest =>
  clear K P2 E2 Rc5 Rc16
  have K := hcut
  clear hcut
  generalize wc = wc2 at *
  go_wp2_with (first | ((with_reducible refine gate_dst (N := 74) rfl ?_); refine load_ev rfl 26 (.tmp 1) rfl rfl (K.out.get 0 rfl) Try.underlying26 rfl ?_) | (go_at_call 30; fail))
  refine (headseg_ParseQuant.calls k a0_0 A0_1 c0_1 l0_1 0 0 0 0 0 none 0 [] 0 0 false false false false false false false false none 0 [] 0 0 q0 q1 q2 q3 q4 q5 q6 q7 q8 q9 q10 q11 q12 q13 q14 q15 q16 q17 q18 qe _ (Kd.C_below HR1.out K.out.below) HC1.out (Kd.C_nil _ _) (Nat.le_refl 0) (Kd.C_nil _ _) (Nat.le_refl 0) P3.out).mono ?_
  rintro _ w4 ⟨v5, v16, rfl, r5, r16, b⟩
  obtain ⟨Q5, kQ5, rfl⟩ := Kd.R_slice r5
  obtain ⟨Q16, kQ16, rfl⟩ := Kd.R_slice r16
  have Rq5 := Aside0.mk (Kd.R_lower r5 (below_size K.out.below))
  have Rq16 := Aside0.mk (Kd.R_lower r16 (below_size K.out.below))
  have K' := Aside0.mk (K.out.call (below_size K.out.below) b)
  clear K
  have K := K'
  clear K'
  clear b r5 r16
  go_upto_if 80 with (first | ((with_reducible refine gate_dst (N := 11) rfl ?_); refine box_event ?hg (N := 11) ?hd (cs := #[.int .i64 0, .int .i64 0, .int .i64 0, .int .i64 0, .int .i64 0, .slice none 0 0, .int .i64 0, .int .i64 0, .bool false, .bool false, .bool false, .bool false, .bool false, .bool false, .bool false, .bool false, .slice none 0 0, .int .i64 0, .int .i64 0]) (t := 55) ?hr ?_; (case hd => rfl); (case hg => rfl); (case hr => first | (go_simp; done) | (go_simp; rfl)); intro g11 hg W11 hbox hb; have Rq5' := Aside0.mk (Kd.R_below Rq5.out hb); clear Rq5; have Rq5 := Rq5'; clear Rq5'; have Rq16' := Aside0.mk (Kd.R_below Rq16.out hb); clear Rq16; have Rq16 := Rq16'; clear Rq16'; have K' := Aside0.mk (K.out.box (below_size K.out.below) hg hbox hb); clear K; have K := K'; clear K'; clear hg hbox hb) | ((with_reducible refine gate_store (t := 55) (p := 11) (v := .tmp 77) rfl ?_); refine store_ev rfl rfl 55 (.tmp 11) (.tmp 77) rfl rfl rfl (K.out.get 0 rfl) rfl rfl (by first | (kernel_rfl) | (simp [Value.oneCell'])) ?_; intro S77 hs; have Rq5' := Aside0.mk (row_stored Rq5.out (K.out.get 0 rfl) (by decide) hs); clear Rq5; have Rq5 := Rq5'; clear Rq5'; have Rq16' := Aside0.mk (row_stored Rq16.out (K.out.get 0 rfl) (by decide) hs); clear Rq16; have Rq16 := Rq16'; clear Rq16'; have K' := Aside0.mk (K.out.stored 0 rfl hs); clear K; have K := K'; clear K'; clear hs))
  go_cut [] (fun wc => Aside0 (Bks w.heap.size w wc [(g1, 26, #[.int .i64 a0_0, .slice A0_1 l0_1.length c0_1])]))
  case first =>
    by_cases he : qe = 0
    rotate_left
    · have hb0 : (qe == 0) = false := beq_eq_false_iff_ne.mpr he
      (try rw [hb0])
      go_wp2
      go_meet
      case rel => exact ⟨K.out.tl⟩
    obtain ⟨hG, hS⟩ := E3.out he
    have HG := Aside0.mk hG
    have HS := Aside0.mk hS
    clear hG hS
    subst he
    go_wp2_with (first | ((with_reducible refine gate_dst (N := 82) rfl ?_); refine load_ev rfl 55 (.tmp 11) rfl rfl (K.out.get 0 rfl) Try.underlying55 rfl ?_) | (go_at_call 28; fail))
    refine (headseg_Quant.calls k q0 q1 q2 q3 q4 Q5 kQ5 q5 q6 q7 q8 q9 q10 q11 q12 q13 q14 q15 Q16 kQ16 q16 q17 q18 a0_0 l0_1 0 _ (Kd.R_reads' Rq5.out).2.2 (Kd.R_reads' Rq5.out).2.1 (Kd.R_reads' Rq16.out).2.2 (Kd.R_reads' Rq16.out).2.1 HG.out).mono ?_
    rintro _ w5 ⟨v1, rfl, r1, b⟩
    obtain ⟨Aa, ca, rfl⟩ := Kd.R_slice r1
    have Rq5' := Aside0.mk (Kd.R_below Rq5.out b)
    clear Rq5
    have Rq5 := Rq5'
    clear Rq5'
    have Rq16' := Aside0.mk (Kd.R_below Rq16.out b)
    clear Rq16
    have Rq16 := Rq16'
    clear Rq16'
    have Ra := Aside0.mk (Kd.R_lower r1 (below_size K.out.below))
    have K' := Aside0.mk (K.out.call (below_size K.out.below) b)
    clear K
    have K := K'
    clear K'
    clear b r1
    go_wp2_with (first | ((with_reducible refine gate_dst (N := 13) rfl ?_); refine box_event ?hg (N := 13) ?hd (cs := #[.int .i64 0, .slice none 0 0]) (t := 26) ?hr ?_; (case hd => rfl); (case hg => rfl); (case hr => first | (go_simp; done) | (go_simp; rfl)); intro g13 hg W13 hbox hb; have Rq5' := Aside0.mk (Kd.R_below Rq5.out hb); clear Rq5; have Rq5 := Rq5'; clear Rq5'; have Rq16' := Aside0.mk (Kd.R_below Rq16.out hb); clear Rq16; have Rq16 := Rq16'; clear Rq16'; have Ra' := Aside0.mk (Kd.R_below Ra.out hb); clear Ra; have Ra := Ra'; clear Ra'; have K' := Aside0.mk (K.out.box (below_size K.out.below) hg hbox hb); clear K; have K := K'; clear K'; clear hg hbox hb) | ((with_reducible refine gate_store (t := 26) (p := 13) (v := .tmp 84) rfl ?_); refine store_ev rfl rfl 26 (.tmp 13) (.tmp 84) rfl rfl rfl (K.out.get 0 rfl) rfl rfl (by first | (kernel_rfl) | (simp [Value.oneCell'])) ?_; intro S84 hs; have Rq5' := Aside0.mk (row_stored Rq5.out (K.out.get 0 rfl) (by decide) hs); clear Rq5; have Rq5 := Rq5'; clear Rq5'; have Rq16' := Aside0.mk (row_stored Rq16.out (K.out.get 0 rfl) (by decide) hs); clear Rq16; have Rq16 := Rq16'; clear Rq16'; have Ra' := Aside0.mk (row_stored Ra.out (K.out.get 0 rfl) (by decide) hs); clear Ra; have Ra := Ra'; clear Ra'; have K' := Aside0.mk (K.out.stored 0 rfl hs); clear K; have K := K'; clear K'; clear hs) | ((with_reducible refine gate_dst (N := 89) rfl ?_); (try (refine gate_guard (by rfl) ?_; dsimp only)); refine load_ev rfl 26 (.tmp 1) rfl rfl (K.out.get 2 rfl) Try.underlying26 rfl ?_) | ((with_reducible refine gate_dst (N := 90) rfl ?_); (try (refine gate_guard (by rfl) ?_; dsimp only)); refine load_ev rfl 26 (.tmp 13) rfl rfl (K.out.get 0 rfl) Try.underlying26 rfl ?_) | (go_at_call 17; fail))
    refine (waveletlaw29_sameSegment.calls k a0_0 A0_1 c0_1 l0_1 a0_0 Aa ca l0_1 true _ (Kd.C_below HR1.out K.out.below) HC1.out (Kd.R_reads' Ra.out).2.2 (Kd.R_reads' Ra.out).2.1 HS.out).mono ?_
    rintro _ w6 ⟨rfl, b⟩
    have K' := Aside0.mk (K.out.call (below_size K.out.below) b)
    clear K
    have K := K'
    clear K'
    clear b 
    go_wp2
    go_meet
    case rel => exact ⟨K.out.tl.tl⟩
  case rest =>
  clear K P3 E3 Rq5 Rq16
  have K := hcut
  clear hcut
  generalize wc = wc3 at *
  go_wp2_with (first | ((with_reducible refine gate_dst (N := 95) rfl ?_); refine load_ev rfl 26 (.tmp 1) rfl rfl (K.out.get 0 rfl) Try.underlying26 rfl ?_) | (go_at_call 20; fail))
  refine (headseg_ParseTile.calls k a0_0 A0_1 c0_1 l0_1 t0 t1 t2 t3 te _ (Kd.C_below HR1.out K.out.below) HC1.out P4.out).mono ?_
  rintro _ w4 ⟨rfl, b⟩
  have K' := Aside0.mk (K.out.call (below_size K.out.below) b)
  clear K
  have K := K'
  clear K'
  clear b 
  go_upto_if 103 with (fail)
  go_cut [] (fun wc => Aside0 (Bks w.heap.size w wc [(g1, 26, #[.int .i64 a0_0, .slice A0_1 l0_1.length c0_1])]))
  case first =>
    by_cases he : te = 0
    rotate_left
    · have hb0 : (te == 0) = false := beq_eq_false_iff_ne.mpr he
      (try rw [hb0])
      go_wp2
      go_meet
      case rel => exact ⟨K.out⟩
    obtain ⟨hG, hS⟩ := E4.out he
    have HG := Aside0.mk hG
    have HS := Aside0.mk hS
    clear hG hS
    subst he
    go_wp2_with (first | (go_at_call 18; fail))
    refine (headseg_Tile.calls k t0 t1 t2 t3 a0_0 l0_1 0 _ HG.out).mono ?_
    rintro _ w5 ⟨v1, rfl, r1, b⟩
    obtain ⟨Aa, ca, rfl⟩ := Kd.R_slice r1
    have Ra := Aside0.mk (Kd.R_lower r1 (below_size K.out.below))
    have K' := Aside0.mk (K.out.call (below_size K.out.below) b)
    clear K
    have K := K'
    clear K'
    clear b r1
    go_wp2_with (first | ((with_reducible refine gate_dst (N := 20) rfl ?_); refine box_event ?hg (N := 20) ?hd (cs := #[.int .i64 0, .slice none 0 0]) (t := 26) ?hr ?_; (case hd => rfl); (case hg => rfl); (case hr => first | (go_simp; done) | (go_simp; rfl)); intro g20 hg W20 hbox hb; have Ra' := Aside0.mk (Kd.R_below Ra.out hb); clear Ra; have Ra := Ra'; clear Ra'; have K' := Aside0.mk (K.out.box (below_size K.out.below) hg hbox hb); clear K; have K := K'; clear K'; clear hg hbox hb) | ((with_reducible refine gate_store (t := 26) (p := 20) (v := .tmp 110) rfl ?_); refine store_ev rfl rfl 26 (.tmp 20) (.tmp 110) rfl rfl rfl (K.out.get 0 rfl) rfl rfl (by first | (kernel_rfl) | (simp [Value.oneCell'])) ?_; intro S110 hs; have Ra' := Aside0.mk (row_stored Ra.out (K.out.get 0 rfl) (by decide) hs); clear Ra; have Ra := Ra'; clear Ra'; have K' := Aside0.mk (K.out.stored 0 rfl hs); clear K; have K := K'; clear K'; clear hs) | ((with_reducible refine gate_dst (N := 115) rfl ?_); (try (refine gate_guard (by rfl) ?_; dsimp only)); refine load_ev rfl 26 (.tmp 1) rfl rfl (K.out.get 1 rfl) Try.underlying26 rfl ?_) | ((with_reducible refine gate_dst (N := 116) rfl ?_); (try (refine gate_guard (by rfl) ?_; dsimp only)); refine load_ev rfl 26 (.tmp 20) rfl rfl (K.out.get 0 rfl) Try.underlying26 rfl ?_) | (go_at_call 17; fail))
    refine (waveletlaw29_sameSegment.calls k a0_0 A0_1 c0_1 l0_1 a0_0 Aa ca l0_1 true _ (Kd.C_below HR1.out K.out.below) HC1.out (Kd.R_reads' Ra.out).2.2 (Kd.R_reads' Ra.out).2.1 HS.out).mono ?_
    rintro _ w6 ⟨rfl, b⟩
    have K' := Aside0.mk (K.out.call (below_size K.out.below) b)
    clear K
    have K := K'
    clear K'
    clear b 
    go_wp2
    go_meet
    case rel => exact ⟨K.out.tl⟩
  case rest =>
  clear K P4 E4
  have K := hcut
  clear hcut
  generalize wc = wc4 at *
  go_wp2_with (first | ((with_reducible refine gate_dst (N := 121) rfl ?_); refine load_ev rfl 26 (.tmp 1) rfl rfl (K.out.get 0 rfl) Try.underlying26 rfl ?_) | (go_at_call 15; fail))
  refine (headseg_ParseComment.calls a0_0 A0_1 c0_1 l0_1 m0 me _ (Kd.C_below HR1.out K.out.below) HC1.out P5.out).mono ?_
  rintro _ w4 ⟨rfl, b⟩
  have K' := Aside0.mk (K.out.call (below_size K.out.below) b)
  clear K
  have K := K'
  clear K'
  clear b 
  go_upto_if 126 with (fail)
  go_cut [] (fun wc => Aside0 (Bks w.heap.size w wc [(g1, 26, #[.int .i64 a0_0, .slice A0_1 l0_1.length c0_1])]))
  case first =>
    by_cases he : me = 0
    rotate_left
    · have hb0 : (me == 0) = false := beq_eq_false_iff_ne.mpr he
      (try rw [hb0])
      go_wp2
      go_meet
      case rel => exact ⟨K.out⟩
    obtain ⟨hG, hS⟩ := E5.out he
    have HG := Aside0.mk hG
    have HS := Aside0.mk hS
    clear hG hS
    subst he
    go_wp2_with (first | (go_at_call 13; fail))
    refine (headseg_Comment.calls m0 a0_0 l0_1 0 _ HG.out).mono ?_
    rintro _ w5 ⟨v1, rfl, r1, b⟩
    obtain ⟨Aa, ca, rfl⟩ := MR_slice r1
    have HM := Aside0.mk (MR_reads' r1)
    have HB5 := Aside0.mk (Below.refl w5.heap.size w5)
    clear r1
    have K' := Aside0.mk (K.out.call (below_size K.out.below) b)
    clear K
    have K := K'
    clear K'
    clear b 
    go_wp2_with (first | ((with_reducible refine gate_dst (N := 24) rfl ?_); refine box_event ?hg (N := 24) ?hd (cs := #[.int .i64 0, .slice none 0 0]) (t := 26) ?hr ?_; (case hd => rfl); (case hg => rfl); (case hr => first | (go_simp; done) | (go_simp; rfl)); intro g24 hg W24 hbox hb; have HGE := Aside0.mk (show w5.heap.size ≤ g24 by rw [hg]; exact HB5.out.size); have HB5' := Aside0.mk (HB5.out.trans (hb.mono HB5.out.size)); clear HB5; have HB5 := HB5'; clear HB5'; have K' := Aside0.mk (K.out.box (below_size K.out.below) hg hbox hb); clear K; have K := K'; clear K'; clear hg hbox hb) | ((with_reducible refine gate_store (t := 26) (p := 24) (v := .tmp 130) rfl ?_); refine store_ev rfl rfl 26 (.tmp 24) (.tmp 130) rfl rfl rfl (K.out.get 0 rfl) rfl rfl (by first | (kernel_rfl) | (simp [Value.oneCell'])) ?_; intro S130 hs; have HB5' := Aside0.mk (hs.below _ _ HGE.out HB5.out); clear HB5; have HB5 := HB5'; clear HB5'; have K' := Aside0.mk (K.out.stored 0 rfl hs); clear K; have K := K'; clear K'; clear hs) | ((with_reducible refine gate_dst (N := 135) rfl ?_); (try (refine gate_guard (by rfl) ?_; dsimp only)); refine load_ev rfl 26 (.tmp 1) rfl rfl (K.out.get 1 rfl) Try.underlying26 rfl ?_) | ((with_reducible refine gate_dst (N := 136) rfl ?_); (try (refine gate_guard (by rfl) ?_; dsimp only)); refine load_ev rfl 26 (.tmp 24) rfl rfl (K.out.get 0 rfl) Try.underlying26 rfl ?_) | (go_at_call 17; fail))
    refine (waveletlaw29_sameSegment.calls k a0_0 A0_1 c0_1 l0_1 a0_0 Aa ca l0_1 true _ (Kd.C_below HR1.out K.out.below) HC1.out (Kd.C_below HM.out.2.2 HB5.out) HM.out.2.1 HS.out).mono ?_
    rintro _ w6 ⟨rfl, b⟩
    have K' := Aside0.mk (K.out.call (below_size K.out.below) b)
    clear K
    have K := K'
    clear K'
    clear b 
    go_wp2
    go_meet
    case rel => exact ⟨K.out.tl⟩
  case rest =>
  clear K P5 E5
  have K := hcut
  clear hcut
  generalize wc = wc5 at *
  go_wp2_with (first | ((with_reducible refine gate_dst (N := 141) rfl ?_); refine load_ev rfl 26 (.tmp 1) rfl rfl (K.out.get 0 rfl) Try.underlying26 rfl ?_) | (go_at_call 24; fail))
  have K' := Aside0.mk (K.out.alloc (below_size K.out.below) #[.int .i64 a0_0, .slice A0_1 l0_1.length c0_1] 26)
  clear K
  have K := K'
  clear K'
  refine (headseg_ParseLengths.calls k (some ⟨wc5.heap.size, 0, none⟩) 1 [(⟨a0_0, l0_1⟩ : S26)] n0 ne _ (C26_one (K.out.get 0 rfl) HC1.out (Kd.C_below HR1.out K.out.below)) (Nat.le_refl 1) P6.out).mono ?_
  rintro _ w4 ⟨v0, rfl, r0, b⟩
  obtain ⟨An, kAn, rfl⟩ := Kd.R_slice r0
  have Rn := Aside0.mk (Kd.R_lower r0 (below_size K.out.below))
  have K' := Aside0.mk (K.out.call (below_size K.out.below) b)
  clear K
  have K := K'
  clear K'
  clear b r0
  go_upto_if 147 with (fail)
  go_cut [] (fun wc => Aside0 (Bks w.heap.size w wc [(g1, 26, #[.int .i64 a0_0, .slice A0_1 l0_1.length c0_1])]))
  case first =>
    by_cases he : ne = 0
    rotate_left
    · have hb0 : (ne == 0) = false := beq_eq_false_iff_ne.mpr he
      (try rw [hb0])
      go_wp2
      go_meet
      case rel => exact ⟨K.out.tl⟩
    obtain ⟨hG, hS⟩ := E6.out he
    have HG := Aside0.mk hG
    have HS := Aside0.mk hS
    clear hG hS
    subst he
    have z0 : w4.cell? ⟨g1, 0, none⟩ = some (.int .i64 a0_0) := K.out.cell 1 rfl 0 rfl
    go_wp2_with (go_at_call 22; fail)
    clear z0
    refine (headseg_Lengths.calls k a0_0 An kAn n0 [(⟨a0_0, l0_1⟩ : S26)] 0 _ (Kd.R_reads' Rn.out).2.2 (Kd.R_reads' Rn.out).2.1 HG.out).mono ?_
    rintro _ w5 ⟨v1, rfl, r1, b⟩
    obtain ⟨As, ks, rfl⟩ := Kd.S_slice r1
    have HM := Aside0.mk (Kd.S_reads' r1)
    clear r1
    have Rn' := Aside0.mk (Kd.R_below Rn.out b)
    clear Rn
    have Rn := Rn'
    clear Rn'
    have K' := Aside0.mk (K.out.call (below_size K.out.below) b)
    clear K
    have K := K'
    clear K'
    clear b 
    clear Rn
    go_wp2_with (first | ((with_reducible refine gate_dst (N := 158) rfl ?_); (try (refine gate_guard (by rfl) ?_; dsimp only)); refine load_ev rfl 26 (.tmp 1) rfl rfl (K.out.get 1 rfl) Try.underlying26 rfl ?_) | (go_at_call 26; fail))
    have HB5 := Aside0.mk (below_alloc (Below.refl w5.heap.size w5) (Obj.cells #[.int .i64 a0_0, .slice A0_1 l0_1.length c0_1] 26))
    have K' := Aside0.mk (K.out.alloc (below_size K.out.below) #[.int .i64 a0_0, .slice A0_1 l0_1.length c0_1] 26)
    clear K
    have K := K'
    clear K'
    refine (waveletlaw29_sameSegments.calls k (some ⟨w5.heap.size, 0, none⟩) 1 [(⟨a0_0, l0_1⟩ : S26)] As ks [(⟨a0_0, l0_1⟩ : S26)] true _ (C26_one (K.out.get 0 rfl) HC1.out (Kd.C_below HR1.out K.out.below)) (Nat.le_refl 1) (Kd.C_below HM.out.2.2 HB5.out) HM.out.2.1 HS.out).mono ?_
    rintro _ w6 ⟨rfl, b⟩
    have K' := Aside0.mk (K.out.call (below_size K.out.below) b)
    clear K
    have K := K'
    clear K'
    clear b 
    go_wp2
    go_meet
    case rel => exact ⟨K.out.tl.tl⟩
  case rest =>
  have K := hcut
  clear hcut
  go_wp2_with (go_at_call 12; refine (waveletlaw29_awake.calls k true _ HA.out).mono ?_; rintro _ w' ⟨rfl, b⟩; have Kw := Aside0.mk (K.out.call (below_size K.out.below) b); clear b)
  go_ret
  exact ⟨rfl, Kw.out.below⟩
end Go.Proofs.Ytihfopblmjgfaaa.Q

/- What the functions of chapter 29 compute, in plain lists and numbers: used by the pure laws of this chapter. -/
namespace Go.Proofs.Ytihfopblmjgfaaa.Pure
open Go.RowKit Go.Proofs.Ytihfopblmjgfaaa.Q Go.Proofs.YtihfopblmjgfaaaW.PrintWords
set_option linter.unusedVariables false

theorem awake_holds : ∃ k, waveletlaw29_awake.f k = some true := ⟨100, by kernel_rfl⟩
theorem wf_bd {a : Int} (h : (Lit.int .i64 a).wf = true) : -9223372036854775808 ≤ a ∧ a ≤ 9223372036854775807 := by
  simp [Lit.wf, IntKind.min, IntKind.max, IntKind.signed, IntKind.bits] at h
  omega
theorem wf_u8 {a : Int} (h : (Lit.int .u8 a).wf = true) : 0 ≤ a ∧ a ≤ 255 := by
  simp [Lit.wf, IntKind.min, IntKind.max, IntKind.signed, IntKind.bits] at h
  omega

/-- One byte more. -/
def step (v x : Int) : Int := Go.bits .or .i64 (wrap64 (v * 256)) (wrap64 x)
theorem step_eq {v x : Int} (h0 : 0 ≤ v) (h1 : v < 16777216) (h2 : 0 ≤ x) (h3 : x ≤ 255) : step v x = v * 256 + x := by
  unfold step
  rw [show wrap64 (v * 256) = v * 256 by unfold wrap64; omega, show wrap64 x = x by unfold wrap64; omega]
  exact bits_join .i64 40 (by decide) (fun n a b => by rw [IntKind.wrap_i64]; omega) 8 _ _ (by omega) (by omega) (by omega) h2 (by omega) (by omega)
/-- The number of some bytes. -/
def num (l : List Int) : Int := l.foldl step 0
/-- What ReadUint returns. -/
def RU (l : List Int) (at_ n : Int) : Int × Int :=
  if n < 1 ∨ 4 < n ∨ at_ < 0 ∨ (l.length : Int) < at_ then (0, 2) else if (l.length : Int) - at_ < n then (0, 7) else (num ((l.take (at_ + n).toNat).drop at_.toNat), 0)
theorem ru_loop (m : List Int) (hm : m.length ≤ 4) (d : Nat) : ∀ (k j : Nat) (v : Int), j + d = m.length → marker_ReadUint.l0 (k + d + 1) v m (m.length : Int) (j : Int) = some ((m.drop j).foldl step v, 0) := by
  induction d with
  | zero =>
    intro k j v hj
    rw [show k + 0 + 1 = k + 1 from rfl, marker_ReadUint.l0, if_neg (by omega), List.drop_eq_nil_of_le (by omega)]
    rfl
  | succ d ih =>
    intro k j v hj
    have hlt : j < m.length := by omega
    rw [show k + (d + 1) + 1 = (k + d + 1) + 1 by omega, marker_ReadUint.l0, if_pos (by omega), if_pos (by omega), if_pos (by omega), List.drop_eq_getElem_cons hlt]
    rw [show wrap64 ((j : Int) + 1) = ((j + 1 : Nat) : Int) by unfold wrap64; omega, ih k (j + 1) _ (by omega)]
    unfold rd
    rw [Int.toNat_natCast, List.getD_eq_getElem?_getD, List.getElem?_eq_getElem hlt]
    rfl
theorem ru_eq (l : List Int) (at_ n : Int) (hl : l.length ≤ 1000000) (hat : at_ ≤ 9223372036854775807) (k : Nat) : marker_ReadUint.f (k + 6) l at_ n = some (RU l at_ n) := by
  have hj : marker_ReadUint.j0 (k + 6) l at_ n true = some (0, 2) := by rw [show k + 6 = (k + 5) + 1 from rfl, marker_ReadUint.j0, if_pos rfl]
  unfold marker_ReadUint.f RU
  by_cases h1 : n < 1
  · rw [if_pos h1, if_pos (.inl h1), hj]
  rw [if_neg h1]
  by_cases h2 : n > 4
  · rw [if_pos h2, if_pos (.inr (.inl h2)), hj]
  rw [if_neg h2]
  by_cases h3 : at_ < 0
  · rw [if_pos h3, if_pos (.inr (.inr (.inl h3))), hj]
  rw [if_neg h3]
  by_cases h4 : (l.length : Int) < at_
  · rw [show decide (at_ > (l.length : Int)) = true from decide_eq_true h4, if_pos (.inr (.inr (.inr h4))), hj]
  rw [show decide (at_ > (l.length : Int)) = false from decide_eq_false h4, if_neg (by omega), show k + 6 = (k + 5) + 1 from rfl, marker_ReadUint.j0, if_neg (by simp)]
  rw [show wrap64 ((l.length : Int) - at_) = (l.length : Int) - at_ by unfold wrap64; omega, show wrap64 (at_ + n) = at_ + n by unfold wrap64; omega]
  by_cases h5 : (l.length : Int) - at_ < n
  · rw [if_pos h5, if_pos h5]
  rw [if_neg h5, if_neg h5, if_pos (by omega), if_pos (by omega), if_pos (by omega)]
  have hm : ((l.take (at_ + n).toNat).drop at_.toNat).length = n.toNat := by rw [List.length_drop, List.length_take]; omega
  have := ru_loop ((l.take (at_ + n).toNat).drop at_.toNat) (by omega) n.toNat (k + (4 - n.toNat)) 0 0 (by omega)
  rw [show k + (4 - n.toNat) + n.toNat + 1 = k + 5 by omega] at this
  rw [show (0 : Int) = ((0 : Nat) : Int) from rfl] at *
  rw [this]
  rfl
theorem shift_small (n : Nat) (h : n ≤ 4) : IntKind.u64.wrap (wrap64 (8 * (n : Int))) = ((8 * n : Nat) : Int) := by
  have : IntKind.u64.wrap (wrap64 (8 * (n : Int))) = wrap64 (8 * (n : Int)) % 18446744073709551616 := by simp [IntKind.wrap, IntKind.bits, IntKind.signed]
  rw [this]
  unfold wrap64
  omega

/-- The bytes of a number, the highest first. -/
def be (v : Int) : Nat → List Int
  | 0 => []
  | i + 1 => (v / 2 ^ (8 * i)) % 256 :: be v i
theorem be_length (v : Int) : ∀ n, (be v n).length = n
  | 0 => rfl
  | n + 1 => by simp [be, be_length v n]
theorem shr_eq (v : Int) (m : Nat) (hm : m ≤ 8) : shr .i64 v ((8 * m : Nat) : Int) = v / 2 ^ (8 * m) := by
  unfold shr
  rw [Int.toNat_natCast, Nat.min_eq_left (by show 8 * m ≤ 64; omega)]
theorem shift_eq (n : Nat) (h : n ≤ 8) : IntKind.u64.wrap (wrap64 (8 * (n : Int))) = ((8 * n : Nat) : Int) := by
  have : IntKind.u64.wrap (wrap64 (8 * (n : Int))) = wrap64 (8 * (n : Int)) % 18446744073709551616 := by simp [IntKind.wrap, IntKind.bits, IntKind.signed]
  rw [this]
  unfold wrap64
  omega
theorem put_loop (v : Int) (m : Nat) (hm : m ≤ 8) : ∀ (k : Nat) (acc : List Int), acc.length + m ≤ 140737488355328 → headseg_put.l0 (k + m + 1) acc v ((m : Int) - 1) = some (acc ++ be v m) := by
  induction m with
  | zero =>
    intro k acc ha
    rw [show k + 0 + 1 = k + 1 from rfl, headseg_put.l0, if_neg (by omega)]
    simp [be]
  | succ m ih =>
    intro k acc ha
    rw [show k + (m + 1) + 1 = (k + m + 1) + 1 by omega, headseg_put.l0, if_pos (by omega), show (((m + 1 : Nat) : Int) - 1) = (m : Int) by omega, shift_eq m (by omega), if_pos (by omega), if_pos (by omega), show wrap64 ((m : Int) - 1) = (m : Int) - 1 by unfold wrap64; omega]
    rw [shr_eq v m (by omega), ih (by omega) k _ (by simp; omega)]
    simp [be]
theorem put_eq (acc : List Int) (v : Int) (n : Nat) (hn : n ≤ 8) (ha : acc.length + n ≤ 140737488355328) (k : Nat) : headseg_put.f (k + 9) acc (n : Int) v = some (acc ++ be v n) := by
  unfold headseg_put.f
  rw [show wrap64 ((n : Int) - 1) = (n : Int) - 1 by unfold wrap64; omega]
  have := put_loop v n hn (k + (8 - n)) acc ha
  rwa [show k + (8 - n) + n + 1 = k + 9 by omega] at this
/-- What within returns. -/
def inside (lo hi : Int) (l : List Int) : Bool := l.all fun x => decide (lo ≤ x) && decide (x ≤ hi)
theorem within_loop (lo hi : Int) (l : List Int) (hl : l.length ≤ 9223372036854775807) (d : Nat) : ∀ (k j : Nat), j + d = l.length → headseg_within.l0 (k + d + 1) lo hi l (l.length : Int) (j : Int) = some (inside lo hi (l.drop j)) := by
  induction d with
  | zero =>
    intro k j hj
    rw [show k + 0 + 1 = k + 1 from rfl, headseg_within.l0, if_neg (by omega), List.drop_eq_nil_of_le (by omega)]
    rfl
  | succ d ih =>
    intro k j hj
    have hlt : j < l.length := by omega
    have hrd : rd l (j : Int) = l[j] := by
      unfold rd
      rw [Int.toNat_natCast, List.getD_eq_getElem?_getD, List.getElem?_eq_getElem hlt]
      rfl
    rw [show k + (d + 1) + 1 = (k + d + 1) + 1 by omega, headseg_within.l0, if_pos (by omega), if_pos (by omega), if_pos (by omega), hrd, List.drop_eq_getElem_cons hlt]
    rw [show wrap64 ((j : Int) + 1) = ((j + 1 : Nat) : Int) by unfold wrap64; omega, ih k (j + 1) (by omega)]
    unfold inside
    rw [List.all_cons]
    by_cases h1 : l[j] < lo
    · rw [if_pos h1, decide_eq_false (show ¬ lo ≤ l[j] by omega)]; rfl
    · rw [if_neg h1, decide_eq_true (show lo ≤ l[j] by omega)]
      by_cases h2 : l[j] > hi
      · rw [if_pos h2, decide_eq_false (show ¬ l[j] ≤ hi by omega)]; rfl
      · rw [if_neg h2, decide_eq_true (show l[j] ≤ hi by omega)]; rfl
theorem within_eq (lo hi : Int) (l : List Int) (hl : l.length ≤ 9223372036854775807) (k : Nat) : headseg_within.f (k + l.length + 1) lo hi l = some (inside lo hi l) := by
  have := within_loop lo hi l hl l.length k 0 (by omega)
  simpa [headseg_within.f] using this
end Go.Proofs.Ytihfopblmjgfaaa.Pure

/- Printed walk, shortened (wip/tools/unmerge.py). -/
namespace Go.Proofs.Ytihfopblmjgfaaa.Q
open Go.RowKit Go.Proofs.YtihfopblmjgfaaaW.PrintWords Go.Proofs.YtihfopblmjgfaaaW.PrintLast Go.Proofs.YtihfopblmjgfaaaW.PrintMore
attribute [local go_sem] max2_int min2_int max_two min_two max_three min_three max_four min_four   -- for this text's walks alone
set_option linter.unusedVariables false
set_option linter.unusedSimpArgs false

/-! ### waveletref29_framed: function 50 -/
def waveletref29_framed.f (a0_0 : Int) (l0_1 : List Int) (a1 : Int) (a2 : Int) : Option (Int) := if a0_0 = a1 then (if (l0_1.length : Int) < a2 then (some 7) else (if (l0_1.length : Int) > a2 then (some 9) else (some 0))) else (some 11)
set_option maxHeartbeats 8000000 in
set_option maxRecDepth 100000 in
theorem waveletref29_framed.calls (a0_0 : Int) (A0_1 : Option Addr) (c0_1 : Nat) (l0_1 : List Int) (a1 : Int) (a2 : Int) (r : Int) (w : World) (hr0_1 : Kd.C (Kd.int .u8) w A0_1 l0_1.length l0_1) (hc0_1 : l0_1.length ≤ c0_1) (h : waveletref29_framed.f a0_0 l0_1 a1 a2 = some r) :
    Calls Try.prog 50 #[.agg #[.int .i64 a0_0, .slice A0_1 l0_1.length c0_1], .int .i64 a1, .int .i64 a2] w fun e w' => e = .returned (.int .i64 r) ∧ Below w.heap.size w w' := by
  have hu26 := Try.underlying26
  have HR0_1 := Aside0.mk hr0_1
  have HC0_1 := Aside0.mk hc0_1
  clear hr0_1 hc0_1
  have HB := Aside0.mk (Below.refl w.heap.size w)
  have H : (if a0_0 = a1 then (if (l0_1.length : Int) < a2 then (some 7) else (if (l0_1.length : Int) > a2 then (some 9) else (some 0))) else (some 11)) = some r := h
  clear h
  by_cases c4 : a0_0 = a1
  · rw [if_pos c4] at H
    have c4b0 : (a0_0 == a1) = true := beq_iff_eq.mpr c4
    have c4b1 : (a0_0 != a1) = false := bne_eq_false_iff_eq.mpr c4
    clear c4
    by_cases c5 : (l0_1.length : Int) < a2
    · rw [if_pos c5] at H
      have c5b0 : decide ((l0_1.length : Int) < a2) = true := decide_eq_true c5
      clear c5
      obtain rfl := Option.some.inj H
      go_enter Try.func50, Try.ntmps50
      go_wp2_with (first | ((with_reducible refine gate_dst (N := 3) rfl ?_); refine box_event ?hg (N := 3) ?hd (cs := #[.int .i64 a0_0, .slice A0_1 l0_1.length c0_1]) (t := 26) ?hr ?_; (case hd => rfl); (case hg => rfl); (case hr => first | (go_simp; done) | (go_simp; rfl)); intro gb131 hg w6 hbox hb; have BK131 := Aside0.mk (hbox); have GW131 := Aside0.mk ((by rw [hg]; exact (below_size (upB HB.out)) : w.heap.size ≤ gb131)); have GE131 := Aside0.mk ((by rw [hg]; exact (below_size (upB HB.out)) : w.heap.size ≤ gb131)); replace HB := Aside0.mk (below_step (upB HB.out) hb); clear hb hbox hg; have hcz7_0 : w6.cell? ⟨gb131, 0, none⟩ = some (.int .i64 a0_0) := bc BK131 0; have hcz7_1 : w6.cell? ⟨gb131, 1, none⟩ = some (.slice A0_1 l0_1.length c0_1) := bc BK131 1; have hfz7_0 := blk_frozen BK131.out 0; have hfz7_1 := blk_frozen BK131.out 1))
      go_ret
      exact ⟨by first | rfl | (simp [errW_none, errW_some] <;> rfl) | (simp [*, errW_none, errW_some] <;> rfl), by repeat (first | (with_reducible first | exact HB.out | apply below_alloc | apply pw_below_drewN | apply below_drew1 | refine below_set ?_ GE131.out) | exact HB.out)⟩
    · rw [if_neg c5] at H
      have c5b0 : decide ((l0_1.length : Int) < a2) = false := decide_eq_false c5
      clear c5
      by_cases c8 : (l0_1.length : Int) > a2
      · rw [if_pos c8] at H
        have c8b0 : decide (a2 < (l0_1.length : Int)) = true := decide_eq_true c8
        clear c8
        obtain rfl := Option.some.inj H
        go_enter Try.func50, Try.ntmps50
        go_wp2_with (first | ((with_reducible refine gate_dst (N := 3) rfl ?_); refine box_event ?hg (N := 3) ?hd (cs := #[.int .i64 a0_0, .slice A0_1 l0_1.length c0_1]) (t := 26) ?hr ?_; (case hd => rfl); (case hg => rfl); (case hr => first | (go_simp; done) | (go_simp; rfl)); intro gb131 hg w9 hbox hb; have BK131 := Aside0.mk (hbox); have GW131 := Aside0.mk ((by rw [hg]; exact (below_size (upB HB.out)) : w.heap.size ≤ gb131)); have GE131 := Aside0.mk ((by rw [hg]; exact (below_size (upB HB.out)) : w.heap.size ≤ gb131)); replace HB := Aside0.mk (below_step (upB HB.out) hb); clear hb hbox hg; have hcz10_0 : w9.cell? ⟨gb131, 0, none⟩ = some (.int .i64 a0_0) := bc BK131 0; have hcz10_1 : w9.cell? ⟨gb131, 1, none⟩ = some (.slice A0_1 l0_1.length c0_1) := bc BK131 1; have hfz10_0 := blk_frozen BK131.out 0; have hfz10_1 := blk_frozen BK131.out 1))
        go_ret
        exact ⟨by first | rfl | (simp [errW_none, errW_some] <;> rfl) | (simp [*, errW_none, errW_some] <;> rfl), by repeat (first | (with_reducible first | exact HB.out | apply below_alloc | apply pw_below_drewN | apply below_drew1 | refine below_set ?_ GE131.out) | exact HB.out)⟩
      · rw [if_neg c8] at H
        have c8b0 : decide (a2 < (l0_1.length : Int)) = false := decide_eq_false c8
        clear c8
        obtain rfl := Option.some.inj H
        go_enter Try.func50, Try.ntmps50
        go_wp2_with (first | ((with_reducible refine gate_dst (N := 3) rfl ?_); refine box_event ?hg (N := 3) ?hd (cs := #[.int .i64 a0_0, .slice A0_1 l0_1.length c0_1]) (t := 26) ?hr ?_; (case hd => rfl); (case hg => rfl); (case hr => first | (go_simp; done) | (go_simp; rfl)); intro gb131 hg w11 hbox hb; have BK131 := Aside0.mk (hbox); have GW131 := Aside0.mk ((by rw [hg]; exact (below_size (upB HB.out)) : w.heap.size ≤ gb131)); have GE131 := Aside0.mk ((by rw [hg]; exact (below_size (upB HB.out)) : w.heap.size ≤ gb131)); replace HB := Aside0.mk (below_step (upB HB.out) hb); clear hb hbox hg; have hcz12_0 : w11.cell? ⟨gb131, 0, none⟩ = some (.int .i64 a0_0) := bc BK131 0; have hcz12_1 : w11.cell? ⟨gb131, 1, none⟩ = some (.slice A0_1 l0_1.length c0_1) := bc BK131 1; have hfz12_0 := blk_frozen BK131.out 0; have hfz12_1 := blk_frozen BK131.out 1))
        go_ret
        exact ⟨by first | rfl | (simp [errW_none, errW_some] <;> rfl) | (simp [*, errW_none, errW_some] <;> rfl), by repeat (first | (with_reducible first | exact HB.out | apply below_alloc | apply pw_below_drewN | apply below_drew1 | refine below_set ?_ GE131.out) | exact HB.out)⟩
  · rw [if_neg c4] at H
    have c4b0 : (a0_0 == a1) = false := beq_eq_false_iff_ne.mpr c4
    have c4b1 : (a0_0 != a1) = true := bne_iff_ne.mpr c4
    obtain rfl := Option.some.inj H
    go_enter Try.func50, Try.ntmps50
    go_wp2_with (first | ((with_reducible refine gate_dst (N := 3) rfl ?_); refine box_event ?hg (N := 3) ?hd (cs := #[.int .i64 a0_0, .slice A0_1 l0_1.length c0_1]) (t := 26) ?hr ?_; (case hd => rfl); (case hg => rfl); (case hr => first | (go_simp; done) | (go_simp; rfl)); intro gb131 hg w13 hbox hb; have BK131 := Aside0.mk (hbox); have GW131 := Aside0.mk ((by rw [hg]; exact (below_size (upB HB.out)) : w.heap.size ≤ gb131)); have GE131 := Aside0.mk ((by rw [hg]; exact (below_size (upB HB.out)) : w.heap.size ≤ gb131)); replace HB := Aside0.mk (below_step (upB HB.out) hb); clear hb hbox hg; have hcz14_0 : w13.cell? ⟨gb131, 0, none⟩ = some (.int .i64 a0_0) := bc BK131 0; have hcz14_1 : w13.cell? ⟨gb131, 1, none⟩ = some (.slice A0_1 l0_1.length c0_1) := bc BK131 1; have hfz14_0 := blk_frozen BK131.out 0; have hfz14_1 := blk_frozen BK131.out 1))
    go_ret
    exact ⟨by first | rfl | (simp [errW_none, errW_some] <;> rfl) | (simp [*, errW_none, errW_some] <;> rfl), by repeat (first | (with_reducible first | exact HB.out | apply below_alloc | apply pw_below_drewN | apply below_drew1 | refine below_set ?_ GE131.out) | exact HB.out)⟩

end Go.Proofs.Ytihfopblmjgfaaa.Q

/- Printed walk, shortened (wip/tools/unmerge.py). -/
namespace Go.Proofs.Ytihfopblmjgfaaa.Q
open Go.RowKit Go.Proofs.YtihfopblmjgfaaaW.PrintWords Go.Proofs.YtihfopblmjgfaaaW.PrintLast Go.Proofs.YtihfopblmjgfaaaW.PrintMore
attribute [local go_sem] max2_int min2_int max_two min_two max_three min_three max_four min_four   -- for this text's walks alone
set_option linter.unusedVariables false
set_option linter.unusedSimpArgs false

/-! ### waveletref29_get: function 51 -/
def waveletref29_get.l0 : Nat → List Int → Int → Int → Int → Int → Option (Int)
  | 0, _, _, _, _, _ => none
  | k + 1, x0, x1, x2, x7, x8 => if x8 < x2 then (if 0 ≤ (wrap64 (x1 + x8)) then (if (wrap64 (x1 + x8)) < (x0.length : Int) then (waveletref29_get.l0 k x0 x1 x2 (wrap64 ((wrap64 (256 * x7)) + (wrap64 (rd x0 (wrap64 (x1 + x8)))))) (wrap64 (x8 + 1))) else (none)) else (none)) else (some x7)
def waveletref29_get.f (k : Nat) (l0 : List Int) (a1 : Int) (a2 : Int) : Option (Int) := waveletref29_get.l0 k l0 a1 a2 0 0
theorem waveletref29_get.mono_l : ∀ k, (∀ y0 y1 y2 y3 y4, LeO (waveletref29_get.l0 k y0 y1 y2 y3 y4) (waveletref29_get.l0 (k + 1) y0 y1 y2 y3 y4))
  | 0 => fun _ _ _ _ _ r h => by simp [waveletref29_get.l0] at h
  | k + 1 => by
    have ih0 := waveletref29_get.mono_l k
    · intro y0 y1 y2 y3 y4
      unfold waveletref29_get.l0
      repeat' first
      | (with_reducible exact ih0 _ _ _ _ _)
      | (with_reducible exact LeO.refl _)
      | (with_reducible exact LeO.none _)
      | (with_reducible refine LeO.ite ?_ ?_)
      | (with_reducible refine LeO.bind ?_ (fun _ => ?_))
      | exact ih0 _ _ _ _ _
      | exact LeO.none _
      | refine LeO.ite ?_ ?_
      | refine LeO.bind ?_ (fun _ => ?_)
theorem waveletref29_get.mono : ∀ a0 a1 a2 k, LeO (waveletref29_get.f k a0 a1 a2) (waveletref29_get.f (k + 1) a0 a1 a2) := by
  intro a0 a1 a2 k
  have ih0 := waveletref29_get.mono_l k
  unfold waveletref29_get.f
  repeat' first
      | (with_reducible exact ih0 _ _ _ _ _)
      | (with_reducible exact LeO.refl _)
      | (with_reducible exact LeO.none _)
      | (with_reducible refine LeO.ite ?_ ?_)
      | (with_reducible refine LeO.bind ?_ (fun _ => ?_))
      | exact ih0 _ _ _ _ _
      | exact LeO.none _
      | refine LeO.ite ?_ ?_
      | refine LeO.bind ?_ (fun _ => ?_)
set_option maxHeartbeats 8000000 in
set_option maxRecDepth 100000 in
theorem waveletref29_get.calls (k : Nat) (A0 : Option Addr) (c0 : Nat) (l0 : List Int) (a1 : Int) (a2 : Int) (r : Int) (w : World) (hr0 : Kd.C (Kd.int .u8) w A0 l0.length l0) (hc0 : l0.length ≤ c0) (h : waveletref29_get.f k l0 a1 a2 = some r) :
    Calls Try.prog 51 #[.slice A0 l0.length c0, .int .i64 a1, .int .i64 a2] w fun e w' => e = .returned (.int .i64 r) ∧ Drawn0 w w' := by
  have HR0 := Aside0.mk hr0
  have HC0 := Aside0.mk hc0
  clear hr0 hc0
  have H : (waveletref29_get.l0 k l0 a1 a2 0 0) = some r := h
  clear h
  have H' := Aside0.mk H
  clear H
  go_enter Try.func51, Try.ntmps51
  go_wp2
  go_loopg [7, 8] k (fun kq v7 v8 w' => ∃ (x7_1 : Int) (x8_1 : Int), v7 = .int .i64 x7_1 ∧ v8 = .int .i64 x8_1 ∧ Aside0 (waveletref29_get.l0 kq l0 a1 a2 x7_1 x8_1 = some r) ∧ Aside0 (kq ≤ k) ∧ Drawn0 w w')
  case atStart => exact ⟨(0), (0), (by first | rfl | (simp; done) | (simp [*]; done)), (by first | rfl | (simp; done) | (simp [*]; done)), H', ⟨Nat.le_refl _⟩, by repeat (first | exact Drawn0.refl _ | apply Drawn0.step)⟩
  case round =>
    clear H'
    try clear p2
    obtain ⟨x7_1, x8_1, rfl, rfl, HA, HK1, ⟨m1, rfl⟩⟩ := hrel
    cases gk with
    | zero => exact absurd HA.out (by simp [waveletref29_get.l0])
    | succ k1 =>
      have H := HA.out
      clear HA
      simp only [waveletref29_get.l0] at H
      by_cases c4 : x8_1 < a2
      · rw [if_pos c4] at H
        have c4b0 : decide (x8_1 < a2) = true := decide_eq_true c4
        clear c4
        obtain ⟨ji5, hji5⟩ : ∃ j_ : Int, (wrap64 (a1 + x8_1)) = j_ := ⟨_, rfl⟩
        replace H : (if 0 ≤ (ji5) then (if (ji5) < (l0.length : Int) then (waveletref29_get.l0 k1 l0 a1 a2 (wrap64 ((wrap64 (256 * x7_1)) + (wrap64 (rd l0 (ji5))))) (wrap64 (x8_1 + 1))) else (none)) else (none)) = some r := by first | (rw [hji5] at H; exact H) | (simp only [hji5] at H ⊢; exact H)
        have hji5w : (IntKind.i64.wrap (a1 + x8_1)) = ji5 := (i64_w _).trans hji5
        by_cases c6 : 0 ≤ (ji5)
        · rw [if_pos c6] at H
          have c6b0 : decide (0 ≤ (ji5)) = true := decide_eq_true c6
          clear c6
          by_cases c7 : (ji5) < (l0.length : Int)
          · rw [if_pos c7] at H
            have c7b0 : decide ((ji5) < (l0.length : Int)) = true := decide_eq_true c7
            clear c7
            have H' := Aside0.mk H
            clear H
            have p132 : 0 ≤ ((ji5) : Int) := of_decide_eq_true (by first | (with_reducible assumption) | assumption)
            have q132 : (ji5) < (l0.length : Int) := of_decide_eq_true (by first | (with_reducible assumption) | assumption)
            obtain ⟨ad132, e132, hx132_0⟩ := Kd.at_int HR0.out (ji5) p132 q132
            cases e132
            replace p132 := eq_true p132
            replace q132 := eq_true q132
            go_wp2
            go_roundg k1
            case measure => have := HK1.out; omega
            case rel => exact ⟨(wrap64 ((wrap64 (256 * x7_1)) + (wrap64 (rd l0 (ji5))))), (wrap64 (x8_1 + 1)), (by first | rfl | (simp; done) | (simp only [← hji5] <;> (first | rfl | simp)) | (simp [*]; done)), (by first | rfl | (simp; done) | (simp [*]; done)), H', ⟨by have := HK1.out; omega⟩, by repeat (first | exact Drawn0.refl _ | apply Drawn0.step)⟩
          · rw [if_neg c7] at H
            exact absurd H (by simp)
        · rw [if_neg c6] at H
          exact absurd H (by simp)
      · rw [if_neg c4] at H
        have c4b0 : decide (x8_1 < a2) = false := decide_eq_false c4
        clear c4
        obtain rfl := Option.some.inj H
        go_wp2
        go_ret
        exact ⟨by first | rfl | (simp; done) | (simp [*]; done), by repeat (first | exact Drawn0.refl _ | apply Drawn0.step)⟩

end Go.Proofs.Ytihfopblmjgfaaa.Q

/- Printed walk, shortened (wip/tools/unmerge.py). -/
namespace Go.Proofs.Ytihfopblmjgfaaa.Q
open Go.RowKit Go.Proofs.YtihfopblmjgfaaaW.PrintWords Go.Proofs.YtihfopblmjgfaaaW.PrintLast Go.Proofs.YtihfopblmjgfaaaW.PrintMore
attribute [local go_sem] max2_int min2_int max_two min_two max_three min_three max_four min_four   -- for this text's walks alone
set_option linter.unusedVariables false
set_option linter.unusedSimpArgs false

/-! ### waveletref29_in: function 45 -/
def waveletref29_in.f (a0 : Int) (a1 : Int) (a2 : Int) : Option (Bool) := if a1 ≤ a0 then (some (decide (a0 ≤ a2))) else (some false)
set_option maxHeartbeats 8000000 in
set_option maxRecDepth 100000 in
theorem waveletref29_in.calls (a0 : Int) (a1 : Int) (a2 : Int) (r : Bool) (w : World) (h : waveletref29_in.f a0 a1 a2 = some r) :
    Calls Try.prog 45 #[.int .i64 a0, .int .i64 a1, .int .i64 a2] w fun e w' => e = .returned (.bool r) ∧ Drawn0 w w' := by
  have H : (if a1 ≤ a0 then (some (decide (a0 ≤ a2))) else (some false)) = some r := h
  clear h
  by_cases c4 : a1 ≤ a0
  · rw [if_pos c4] at H
    have c4b0 : decide (a1 ≤ a0) = true := decide_eq_true c4
    clear c4
    obtain rfl := Option.some.inj H
    go_enter Try.func45, Try.ntmps45
    go_wp2
    go_ret
    exact ⟨by first | rfl | (simp; done) | (simp [*]; done), by repeat (first | exact Drawn0.refl _ | apply Drawn0.step)⟩
  · rw [if_neg c4] at H
    have c4b0 : decide (a1 ≤ a0) = false := decide_eq_false c4
    clear c4
    obtain rfl := Option.some.inj H
    go_enter Try.func45, Try.ntmps45
    go_wp2
    go_ret
    exact ⟨by first | rfl | (simp; done) | (simp [*]; done), by repeat (first | exact Drawn0.refl _ | apply Drawn0.step)⟩

end Go.Proofs.Ytihfopblmjgfaaa.Q

/- Printed walk, shortened (wip/tools/unmerge.py). -/
namespace Go.Proofs.Ytihfopblmjgfaaa.Q
open Go.RowKit Go.Proofs.YtihfopblmjgfaaaW.PrintWords Go.Proofs.YtihfopblmjgfaaaW.PrintLast Go.Proofs.YtihfopblmjgfaaaW.PrintMore
attribute [local go_sem] max2_int min2_int max_two min_two max_three min_three max_four min_four   -- for this text's walks alone
set_option linter.unusedVariables false
set_option linter.unusedSimpArgs false

/-! ### waveletref29_put: function 46 -/
def waveletref29_put.l0 : Nat → List Int → Int → Int → Option (List Int)
  | 0, _, _, _ => none
  | k + 1, x0, x1, x7 => if x7 ≥ 0 then (if 0 ≤ (wrap64 (8 * x7)) then (if x0.length < 140737488355328 then (waveletref29_put.l0 k (x0 ++ [(shr .i64 x1 (wrap64 (8 * x7))) % 256]) x1 (wrap64 (x7 - 1))) else (none)) else (none)) else (some x0)
def waveletref29_put.f (k : Nat) (l0 : List Int) (a1 : Int) (a2 : Int) : Option (List Int) := waveletref29_put.l0 k l0 a1 (wrap64 (a2 - 1))
theorem waveletref29_put.mono_l : ∀ k, (∀ y0 y1 y2, LeO (waveletref29_put.l0 k y0 y1 y2) (waveletref29_put.l0 (k + 1) y0 y1 y2))
  | 0 => fun _ _ _ r h => by simp [waveletref29_put.l0] at h
  | k + 1 => by
    have ih0 := waveletref29_put.mono_l k
    · intro y0 y1 y2
      unfold waveletref29_put.l0
      repeat' first
      | (with_reducible exact ih0 _ _ _)
      | (with_reducible exact LeO.refl _)
      | (with_reducible exact LeO.none _)
      | (with_reducible refine LeO.ite ?_ ?_)
      | (with_reducible refine LeO.bind ?_ (fun _ => ?_))
      | exact ih0 _ _ _
      | exact LeO.none _
      | refine LeO.ite ?_ ?_
      | refine LeO.bind ?_ (fun _ => ?_)
theorem waveletref29_put.mono : ∀ a0 a1 a2 k, LeO (waveletref29_put.f k a0 a1 a2) (waveletref29_put.f (k + 1) a0 a1 a2) := by
  intro a0 a1 a2 k
  have ih0 := waveletref29_put.mono_l k
  unfold waveletref29_put.f
  repeat' first
      | (with_reducible exact ih0 _ _ _)
      | (with_reducible exact LeO.refl _)
      | (with_reducible exact LeO.none _)
      | (with_reducible refine LeO.ite ?_ ?_)
      | (with_reducible refine LeO.bind ?_ (fun _ => ?_))
      | exact ih0 _ _ _
      | exact LeO.none _
      | refine LeO.ite ?_ ?_
      | refine LeO.bind ?_ (fun _ => ?_)
set_option maxHeartbeats 8000000 in
set_option maxRecDepth 100000 in
theorem waveletref29_put.calls (k : Nat) (P0_ : Nat → Prop) (u9000_ : Value) (l0 : List Int) (a1 : Int) (a2 : Int) (r : List Int) (w0 w : World) (hB : Below w0.heap.size w0 w) (ho0 : Kd.R (Kd.int .u8) 5 w w0.heap.size P0_ u9000_ l0) (h : waveletref29_put.f k l0 a1 a2 = some r) :
    Calls Try.prog 46 #[u9000_, .int .i64 a1, .int .i64 a2] w fun e w' => ∃ v0_ : Value, e = .returned (v0_) ∧ Kd.R (Kd.int .u8) 5 w' w0.heap.size (fun k_ => (P0_ k_ ∨ w.heap.size ≤ k_)) v0_ r ∧ Below w0.heap.size w0 w' ∧ Kept w w' (fun k_ => P0_ k_) := by
  have HO0 := Aside0.mk (show Kd.R (Kd.int .u8) 5 w w0.heap.size (fun k_ => (P0_ k_ ∨ w.heap.size ≤ k_)) u9000_ l0 from Kd.R_mono ho0 (fun k_ hk => (.inl hk)))
  have HK := Aside0.mk (Kept.refl w (fun k_ => P0_ k_))
  have HW0 := Aside0.mk hB.size
  have HB := Aside0.mk hB
  clear hB
  have H : (waveletref29_put.l0 k l0 a1 (wrap64 (a2 - 1))) = some r := h
  clear h
  have H' := Aside0.mk H
  clear H
  go_enter Try.func46, Try.ntmps46
  go_wp2
  go_loopg [0, 7] k (fun kq v0 v7 w' => ∃ (x0_1 : List Int) (x7_1 : Int), v7 = .int .i64 x7_1 ∧ Aside0 (waveletref29_put.l0 kq x0_1 a1 x7_1 = some r) ∧ Aside0 (kq ≤ k) ∧ Aside0 (Kd.R (Kd.int .u8) 5 w' w0.heap.size (fun k_ => (P0_ k_ ∨ w.heap.size ≤ k_)) v0 x0_1) ∧ Aside0 (Kept w w' (fun k_ => P0_ k_)) ∧ Aside0 (Below w0.heap.size w0 w'))
  case atStart => exact ⟨(l0), (wrap64 (a2 - 1)), (by first | rfl | (simp; done) | (simp [*]; done)), H', ⟨Nat.le_refl _⟩, ⟨by (with_reducible repeat (first | apply Kd.R_alloc | apply Kd.R_drewN | apply Kd.R_drew)); exact HO0.out⟩, ⟨by repeat (first | (with_reducible first | exact HK.out | apply Kept.alloc | apply Kept.drewN | apply Kept.drew) | exact HK.out)⟩, ⟨by repeat (first | (with_reducible first | exact HB.out | apply below_alloc | apply pw_below_drewN | apply below_drew1) | exact HB.out)⟩⟩
  case round =>
    clear H'
    try clear p2
    obtain ⟨x0_1, x7_1, rfl, HA, HK1, HO_0, HK, HB⟩ := hrel
    cases gk with
    | zero => exact absurd HA.out (by simp [waveletref29_put.l0])
    | succ k1 =>
      have H := HA.out
      clear HA
      simp only [waveletref29_put.l0] at H
      by_cases c4 : x7_1 ≥ 0
      · rw [if_pos c4] at H
        have c4b0 : decide (0 ≤ x7_1) = true := decide_eq_true c4
        clear c4
        obtain ⟨ji5, hji5⟩ : ∃ j_ : Int, (wrap64 (8 * x7_1)) = j_ := ⟨_, rfl⟩
        replace H : (if 0 ≤ (ji5) then (if x0_1.length < 140737488355328 then (waveletref29_put.l0 k1 (x0_1 ++ [(shr .i64 a1 (ji5)) % 256]) a1 (wrap64 (x7_1 - 1))) else (none)) else (none)) = some r := by first | (rw [hji5] at H; exact H) | (simp only [hji5] at H ⊢; exact H)
        have hji5w : (IntKind.i64.wrap (8 * x7_1)) = ji5 := (i64_w _).trans hji5
        by_cases c6 : 0 ≤ (ji5)
        · rw [if_pos c6] at H
          have c6b0 := eq_true c6
          have c6b1 : decide (0 ≤ (ji5)) = true := decide_eq_true c6
          clear c6
          obtain ⟨ji7, hji7⟩ : ∃ j_ : Int, (shr .i64 a1 (ji5)) = j_ := ⟨_, rfl⟩
          replace H : (if x0_1.length < 140737488355328 then (waveletref29_put.l0 k1 (x0_1 ++ [(ji7) % 256]) a1 (wrap64 (x7_1 - 1))) else (none)) = some r := by first | (rw [hji7] at H; exact H) | (simp only [hji7] at H ⊢; exact H)
          have hji7_ : (a1 / 2 ^ min (ji5).toNat 64) = ji7 := hji7
          have hji7z : (ji5) ≤ 64 → (a1 / 2 ^ (ji5).toNat) = ji7 := shr_small hji7
          by_cases c8 : x0_1.length < 140737488355328
          · rw [if_pos c8] at H
            have LMc8 := Aside0.mk c8
            clear c8
            obtain ⟨y217, hy217⟩ : ∃ y_ : List Int, y_ = (x0_1 ++ [(ji7) % 256]) := ⟨_, rfl⟩
            replace H : (waveletref29_put.l0 k1 y217 a1 (wrap64 (x7_1 - 1))) = some r := by first | (rw [hy217]; with_reducible exact H) | (have H2_ := (Option.bind_some _ _).symm.trans H; rw [hy217]; with_reducible exact H2_) | (have H2_ := (Option.bind_some _ _).symm.trans H; with_reducible exact H2_) | with_reducible exact H | (rw [hy217]; exact H) | exact H
            have Ny217 := Aside0.mk hy217
            clear hy217
            have H' := Aside0.mk H
            clear H
            go_wp2_with (first | ((with_reducible refine gate_builtin (b := .append) (xs := #[.tmp 14, .tmp 20]) rfl ?_); at_builtin; refine Kd.R_append (Kd.int .u8) (w0 := w0) w0.heap.size rfl (.tmp 14) (.tmp 20) 24 5 (.int .u8 0) 1 rfl Try.underlying24 info5 rfl (by decide) (by omega) u0 x0_1 ((ji7) % 256) [.int .u8 ((ji7) % 256)] (fun k_ => (P0_ k_ ∨ w.heap.size ≤ k_)) (fun _ => False) rfl rfl ?aP (fun _ hk => hk.elim) ?aF ?aO ?aB ?aS ?aL ?_; (case aP => exact rfl); (case aB => exact (upB HB.out)); (case aF => exact (fun k_ hk => (.inr (Nat.le_trans (by first | exact HK.out.1 | exact (show Kept w _ (fun k_ => P0_ k_) from by repeat (first | (with_reducible first | exact HK.out | apply Kept.alloc | apply Kept.drewN | apply Kept.drew) | exact HK.out)).1) hk)))); (case aO => exact (upR HO_0.out)); (case aS => exact (below_size (upB HB.out))); (case aL => have := LMc8.out; omega); intro v218 w9 ho hb hg hat; rw [← Ny217.out] at ho; have n0_ := Aside0.mk (hb); have n1_ := Aside0.mk (Kept.of_grown (S := (fun k_ => P0_ k_)) hg (by repeat (first | (with_reducible first | exact HK.out | apply Kept.alloc | apply Kept.drewN | apply Kept.drew) | exact HK.out)) (fun k_ e_ => (HO_0.out.1 k_ e_))); have n2_ := Aside0.mk (ho); clear HB HK HO_0; have HB := n0_; have HK := n1_; have HO219 := n2_; clear n0_ n1_ n2_; clear ho hb hg hat))
            go_roundg k1
            case measure => have := HK1.out; omega
            case rel => exact ⟨(y217), (wrap64 (x7_1 - 1)), (by first | rfl | (simp; done) | (simp [*]; done)), H', ⟨by have := HK1.out; omega⟩, ⟨by (with_reducible repeat (first | apply Kd.R_alloc | apply Kd.R_drewN | apply Kd.R_drew)); exact HO219.out⟩, ⟨by repeat (first | (with_reducible first | exact HK.out | apply Kept.alloc | apply Kept.drewN | apply Kept.drew) | exact HK.out)⟩, ⟨by repeat (first | (with_reducible first | exact HB.out | apply below_alloc | apply pw_below_drewN | apply below_drew1) | exact HB.out)⟩⟩
          · rw [if_neg c8] at H
            exact absurd H (by simp)
        · rw [if_neg c6] at H
          exact absurd H (by simp)
      · rw [if_neg c4] at H
        have c4b0 : decide (0 ≤ x7_1) = false := decide_eq_false c4
        clear c4
        obtain rfl := Option.some.inj H
        go_wp2
        go_ret
        exact ⟨_, by first | rfl | (simp [errW_none, errW_some] <;> rfl) | (simp [*, errW_none, errW_some] <;> rfl), by (with_reducible repeat (first | apply Kd.R_alloc | apply Kd.R_drewN | apply Kd.R_drew)); exact HO_0.out, by repeat (first | (with_reducible first | exact HB.out | apply below_alloc | apply pw_below_drewN | apply below_drew1) | exact HB.out), by repeat (first | (with_reducible first | exact HK.out | apply Kept.alloc | apply Kept.drewN | apply Kept.drew) | exact HK.out)⟩

end Go.Proofs.Ytihfopblmjgfaaa.Q

/- What the reference's small functions of chapter 29 compute: the same. -/
namespace Go.Proofs.Ytihfopblmjgfaaa.Pure
open Go.RowKit Go.Proofs.Ytihfopblmjgfaaa.Q Go.Proofs.YtihfopblmjgfaaaW.PrintWords
set_option linter.unusedVariables false

theorem rin_eq (a lo hi : Int) : waveletref29_in.f a lo hi = some (decide (lo ≤ a) && decide (a ≤ hi)) := by
  unfold waveletref29_in.f
  by_cases h : lo ≤ a
  · rw [if_pos h, decide_eq_true h]; rfl
  · rw [if_neg h, decide_eq_false h]; rfl
theorem rshift_eq (n : Nat) (h : n ≤ 8) : wrap64 (8 * (n : Int)) = ((8 * n : Nat) : Int) := by
  unfold wrap64
  omega
theorem rput_loop (v : Int) (m : Nat) (hm : m ≤ 8) : ∀ (k : Nat) (acc : List Int), acc.length + m ≤ 140737488355328 → waveletref29_put.l0 (k + m + 1) acc v ((m : Int) - 1) = some (acc ++ be v m) := by
  induction m with
  | zero =>
    intro k acc ha
    rw [show k + 0 + 1 = k + 1 from rfl, waveletref29_put.l0, if_neg (by omega)]
    simp [be]
  | succ m ih =>
    intro k acc ha
    rw [show k + (m + 1) + 1 = (k + m + 1) + 1 by omega, waveletref29_put.l0, if_pos (by omega), show (((m + 1 : Nat) : Int) - 1) = (m : Int) by omega, rshift_eq m (by omega), if_pos (by omega), if_pos (by omega), show wrap64 ((m : Int) - 1) = (m : Int) - 1 by unfold wrap64; omega]
    rw [shr_eq v m (by omega), ih (by omega) k _ (by simp; omega)]
    simp [be]
theorem rput_eq (acc : List Int) (v : Int) (n : Nat) (hn : n ≤ 8) (ha : acc.length + n ≤ 140737488355328) (k : Nat) : waveletref29_put.f (k + 9) acc v (n : Int) = some (acc ++ be v n) := by
  unfold waveletref29_put.f
  rw [show wrap64 ((n : Int) - 1) = (n : Int) - 1 by unfold wrap64; omega]
  have := rput_loop v n hn (k + (8 - n)) acc ha
  rwa [show k + (8 - n) + n + 1 = k + 9 by omega] at this
/-- Some bytes of a list of bytes. -/
def sub (l : List Int) (a n : Nat) : List Int := (l.take (a + n)).drop a
theorem sub_length (l : List Int) (a n : Nat) (h : a + n ≤ l.length) : (sub l a n).length = n := by
  unfold sub
  rw [List.length_drop, List.length_take]
  omega
theorem rd_bytes {l : List Int} (hb : ∀ x ∈ l, (Lit.int .u8 x).wf = true) (i : Nat) (hi : i < l.length) : rd l (i : Int) = l[i] ∧ 0 ≤ l[i] ∧ l[i] ≤ 255 := by
  refine ⟨?_, wf_u8 (hb _ (List.getElem_mem hi))⟩
  unfold rd
  rw [Int.toNat_natCast, List.getD_eq_getElem?_getD, List.getElem?_eq_getElem hi]
  rfl
theorem get_loop {l : List Int} (hb : ∀ x ∈ l, (Lit.int .u8 x).wf = true) (hl : l.length ≤ 1000000) (a n : Nat) (hn : n ≤ 4) (han : a + n ≤ l.length) (d : Nat) : ∀ (k j : Nat) (v : Int), j + d = n → 0 ≤ v → v < 256 ^ j →
    waveletref29_get.l0 (k + d + 1) l (a : Int) (n : Int) v (j : Int) = some (((sub l a n).drop j).foldl step v) := by
  have hm := sub_length l a n han
  induction d with
  | zero =>
    intro k j v hj _ _
    rw [show k + 0 + 1 = k + 1 from rfl, waveletref29_get.l0, if_neg (by omega), List.drop_eq_nil_of_le (by omega)]
    rfl
  | succ d ih =>
    intro k j v hj h0 h1
    have hlt : j < (sub l a n).length := by omega
    have hi : a + j < l.length := by omega
    obtain ⟨hrd, hx0, hx1⟩ := rd_bytes hb (a + j) hi
    have he : (sub l a n)[j] = l[a + j] := by simp only [sub, List.getElem_drop, List.getElem_take]
    have hv : v < 16777216 := by
      have hj : j = 0 ∨ j = 1 ∨ j = 2 ∨ j = 3 := by omega
      rcases hj with rfl | rfl | rfl | rfl <;> simp at h1 <;> omega
    have hs : wrap64 (wrap64 (256 * v) + wrap64 l[a + j]) = step v l[a + j] := by
      rw [step_eq h0 hv hx0 hx1]
      unfold wrap64
      omega
    rw [show k + (d + 1) + 1 = (k + d + 1) + 1 by omega, waveletref29_get.l0, if_pos (by omega), show wrap64 ((a : Int) + (j : Int)) = ((a + j : Nat) : Int) by unfold wrap64; omega, if_pos (by omega), if_pos (by omega), hrd, hs, List.drop_eq_getElem_cons hlt]
    rw [show wrap64 ((j : Int) + 1) = ((j + 1 : Nat) : Int) by unfold wrap64; omega, ih k (j + 1) _ (by omega) (by rw [step_eq h0 hv hx0 hx1]; omega) (by rw [step_eq h0 hv hx0 hx1, Int.pow_succ]; omega), he]
    rfl
theorem get_eq {l : List Int} (hb : ∀ x ∈ l, (Lit.int .u8 x).wf = true) (hl : l.length ≤ 1000000) (a n : Nat) (hn : n ≤ 4) (han : a + n ≤ l.length) (k : Nat) : waveletref29_get.f (k + 6) l (a : Int) (n : Int) = some (num (sub l a n)) := by
  have := get_loop hb hl a n hn han n (k + (5 - n)) 0 0 (by omega) (by omega) (by simp)
  rw [show k + (5 - n) + n + 1 = k + 6 by omega] at this
  simpa [waveletref29_get.f, num] using this
/-- ReadUint at a place within. -/
theorem RU_in (l : List Int) (a n : Nat) (h1 : 1 ≤ n) (hn : n ≤ 4) (han : a + n ≤ l.length) : RU l (a : Int) (n : Int) = (num (sub l a n), 0) := by
  unfold RU
  rw [if_neg (by omega), if_neg (by omega)]
  rfl
theorem RU_out (l : List Int) (a n : Nat) (h1 : 1 ≤ n) (hn : n ≤ 4) (ha : a ≤ l.length) (han : l.length < a + n) : RU l (a : Int) (n : Int) = (0, 7) := by
  unfold RU
  rw [if_neg (by omega), if_pos (by omega)]
theorem same_loop (a : List Int) (ha : a.length ≤ 1000000000000) (d : Nat) : ∀ (k j : Nat), j + d = a.length → waveletlaw29_same.l0 (k + d + 1) a a (a.length : Int) (j : Int) = some true := by
  induction d with
  | zero =>
    intro k j hj
    rw [show k + 0 + 1 = k + 1 from rfl, waveletlaw29_same.l0, if_neg (by omega)]
  | succ d ih =>
    intro k j hj
    rw [show k + (d + 1) + 1 = (k + d + 1) + 1 by omega, waveletlaw29_same.l0, if_pos (by omega), if_pos (by omega), if_pos (by omega), if_pos (by omega), if_pos rfl]
    rw [show wrap64 ((j : Int) + 1) = ((j + 1 : Nat) : Int) by unfold wrap64; omega, ih k (j + 1) (by omega)]
theorem same_refl (a : List Int) (ha : a.length ≤ 1000000000000) (k : Nat) : waveletlaw29_same.f (k + a.length + 1) a a = some true := by
  have := same_loop a ha a.length k 0 (by omega)
  simpa [waveletlaw29_same.f] using this
theorem sameSegment_refl (c : Int) (a : List Int) (ha : a.length ≤ 1000000000000) (k : Nat) : waveletlaw29_sameSegment.f (k + a.length + 1) c a c a = some true := by
  unfold waveletlaw29_sameSegment.f
  rw [if_pos rfl, same_refl a ha k]
  rfl
theorem framed_eq (c : Int) (l : List Int) (code n : Int) : waveletref29_framed.f c l code n = some (if c = code then (if (l.length : Int) < n then 7 else if (l.length : Int) > n then 9 else 0) else 11) := by
  unfold waveletref29_framed.f
  repeat' split
  all_goals rfl
end Go.Proofs.Ytihfopblmjgfaaa.Pure

/- Lengths in plain lists and numbers. -/
namespace Go.Proofs.Ytihfopblmjgfaaa.Pure
open Go.RowKit Go.Proofs.Ytihfopblmjgfaaa.Q Go.Proofs.YtihfopblmjgfaaaW.PrintWords
set_option linter.unusedVariables false
set_option maxRecDepth 100000

theorem Ev.pos {α : Type} {c : Prop} [Decidable c] {f g : Nat → Option α} {r : α} (h : c) (k : Ev f r) : Ev (fun n => if c then f n else g n) r := by
  obtain ⟨K, hk⟩ := k
  exact ⟨K, fun n hn => (if_pos h).trans (hk n hn)⟩
theorem Ev.neg {α : Type} {c : Prop} [Decidable c] {f g : Nat → Option α} {r : α} (h : ¬ c) (k : Ev g r) : Ev (fun n => if c then f n else g n) r := by
  obtain ⟨K, hk⟩ := k
  exact ⟨K, fun n hn => (if_neg h).trans (hk n hn)⟩
theorem Ev.plus {α : Type} {f : Nat → Option α} {r : α} (m : Nat) (h : ∀ k, f (k + m) = some r) : Ev f r :=
  ⟨m, fun n hn => by rw [← h (n - m)]; congr 1; omega⟩
theorem Ev.val {α : Type} {f : Nat → Option α} {r : α} (h : Ev f r) : ∃ K, ∀ k, K ≤ k → f k = some r := h
theorem ev_put (acc : List Int) (v : Int) (n : Nat) (hn : n ≤ 8) (ha : acc.length + n ≤ 140737488355328) : Ev (fun k => headseg_put.f k acc (n : Int) v) (acc ++ be v n) := Ev.plus 9 (put_eq acc v n hn ha)
theorem ev_rput (acc : List Int) (v : Int) (n : Nat) (hn : n ≤ 8) (ha : acc.length + n ≤ 140737488355328) : Ev (fun k => waveletref29_put.f k acc v (n : Int)) (acc ++ be v n) := Ev.plus 9 (rput_eq acc v n hn ha)
theorem ev_within (lo hi : Int) (l : List Int) (hl : l.length ≤ 9223372036854775807) : Ev (fun k => headseg_within.f k lo hi l) (inside lo hi l) :=
  Ev.plus (l.length + 1) (fun k => by rw [← Nat.add_assoc]; exact within_eq lo hi l hl k)
theorem ev_awake : Ev (fun k => waveletlaw29_awake.f k) true := by
  obtain ⟨k, h⟩ := awake_holds
  exact Ev.of waveletlaw29_awake.mono h
theorem ev_ru (l : List Int) (a n : Int) (hl : l.length ≤ 1000000) (ha : a ≤ 9223372036854775807) : Ev (fun k => marker_ReadUint.f k l a n) (RU l a n) := Ev.plus 6 (ru_eq l a n hl ha)
theorem ev_get {l : List Int} (hb : ∀ x ∈ l, (Lit.int .u8 x).wf = true) (hl : l.length ≤ 1000000) (a n : Nat) (hn : n ≤ 4) (han : a + n ≤ l.length) : Ev (fun k => waveletref29_get.f k l (a : Int) (n : Int)) (num (sub l a n)) := Ev.plus 6 (get_eq hb hl a n hn han)
theorem ev_same (a : List Int) (ha : a.length ≤ 1000000000000) : Ev (fun k => waveletlaw29_same.f k a a) true := Ev.plus (a.length + 1) (fun k => by rw [← Nat.add_assoc]; exact same_refl a ha k)
theorem ev_sameSegment (c : Int) (a : List Int) (ha : a.length ≤ 1000000000000) : Ev (fun k => waveletlaw29_sameSegment.f k c a c a) true := Ev.plus (a.length + 1) (fun k => by rw [← Nat.add_assoc]; exact sameSegment_refl c a ha k)

theorem rd_at {l : List Int} (i : Nat) (hi : i < l.length) : rd l (i : Int) = l[i] := by
  unfold rd
  rw [Int.toNat_natCast, List.getD_eq_getElem?_getD, List.getElem?_eq_getElem hi]
  rfl
/-- The bytes of some numbers. -/
def enc4 : List Int → List Int
  | [] => []
  | v :: l => be v 4 ++ enc4 l
theorem enc4_length : ∀ l : List Int, (enc4 l).length = 4 * l.length
  | [] => rfl
  | v :: l => by simp [enc4, be_length, enc4_length l]; omega
/-- The numbers of the segment i. -/
def chunk (l : List Int) (i : Nat) : List Int := (l.drop (16000 * i)).take 16000
def segAt (c : Int) (l : List Int) (i : Nat) : S26 := ⟨c, (i : Int) % 256 :: enc4 (chunk l i)⟩
def nseg (l : List Int) : Nat := max 1 ((l.length + 15999) / 16000)
/-- The segments from number i on. -/
def segsFrom (c : Int) (l : List Int) : Nat → Nat → List S26
  | _, 0 => []
  | i, d + 1 => segAt c l i :: segsFrom c l (i + 1) d
def LenF (c : Int) (l : List Int) : List S26 × Int :=
  if ¬ (c = 65445 ∨ c = 65457) then ([], 3) else if inside 0 4294967295 l then (segsFrom c l 0 (nseg l), 0) else ([], 2)
theorem len_inner {R : List S26 × Int} (c : Int) (l : List Int) (acc : List S26) (x7 : Int) (m : List Int) (hm : m.length ≤ 40000) (hacc : acc.length ≤ 1000) (d : Nat) : ∀ (j : Nat) (x8 : List Int), j + d = m.length → x8.length ≤ 4 * j + 1 →
    Ev (fun k => headseg_Lengths.l0 k c l (acc ++ [(⟨c, x8 ++ enc4 (m.drop j)⟩ : S26)]) (wrap64 (x7 + 16000))) R → Ev (fun k => headseg_Lengths.l1 k c l acc x7 x8 m (m.length : Int) (j : Int)) R := by
  induction d with
  | zero =>
    intro j x8 hj hx h
    refine Ev.step (fun k => headseg_Lengths.l1.eq_2 ..) (Ev.neg (by omega) (Ev.pos (by omega) ?_))
    rw [List.drop_eq_nil_of_le (by omega)] at h
    simpa [enc4] using h
  | succ d ih =>
    intro j x8 hj hx h
    refine Ev.step (fun k => headseg_Lengths.l1.eq_2 ..) (Ev.pos (by omega) (Ev.pos (by omega) (Ev.pos (by omega) (Ev.bind (ev_put x8 _ 4 (by omega) (by omega)) ?_))))
    rw [show wrap64 ((j : Int) + 1) = ((j + 1 : Nat) : Int) by unfold wrap64; omega]
    refine ih (j + 1) _ (by omega) (by simp [be_length]; omega) ?_
    rw [List.drop_eq_getElem_cons (show j < m.length by omega)] at h
    rw [rd_at j (by omega)]
    simpa [enc4] using h
theorem cut_chunk (l : List Int) (i : Nat) (x : Int) (hx : x = mn (((16000 * i : Nat) : Int) + 16000) (l.length : Int)) : (l.take x.toNat).drop (16000 * i) = chunk l i := by
  subst hx
  unfold chunk mn
  rw [List.drop_take]
  rcases Nat.lt_or_ge l.length (16000 * i + 16000) with h | h
  · rw [List.take_of_length_le (l := l.drop (16000 * i)) (i := 16000) (by rw [List.length_drop]; omega), List.take_of_length_le]
    rw [List.length_drop]
    split <;> omega
  · congr 1
    split <;> omega
theorem len_outer (c : Int) (l : List Int) (hl : l.length ≤ 40000) (d : Nat) : ∀ (i : Nat) (acc : List S26), i + d = nseg l → acc.length ≤ i → Ev (fun k => headseg_Lengths.l0 k c l acc ((16000 * i : Nat) : Int)) (acc ++ segsFrom c l i d, 0) := by
  have hn : nseg l ≤ 3 := by unfold nseg; omega
  induction d with
  | zero =>
    intro i acc hi ha
    have h1 : 1 ≤ i ∧ l.length ≤ 16000 * i := by unfold nseg at hi; omega
    refine Ev.step (fun k => headseg_Lengths.l0.eq_2 ..) (Ev.neg (by omega) (Ev.step (fun k => headseg_Lengths.j2.eq_2 ..) (Ev.neg ?_ ?_)))
    · simp; omega
    · simpa [segsFrom] using Ev.now (acc, (0 : Int))
  | succ d ih =>
    intro i acc hi ha
    have h1 : i = 0 ∨ 16000 * i < l.length := by unfold nseg at hi; omega
    have hmn : mn (wrap64 (((16000 * i : Nat) : Int) + 16000)) (l.length : Int) = mn (((16000 * i : Nat) : Int) + 16000) (l.length : Int) := by
      rw [show wrap64 (((16000 * i : Nat) : Int) + 16000) = ((16000 * i : Nat) : Int) + 16000 by unfold wrap64; omega]
    have hb : ((16000 * i : Nat) : Int) ≤ mn (((16000 * i : Nat) : Int) + 16000) (l.length : Int) ∧ mn (((16000 * i : Nat) : Int) + 16000) (l.length : Int) ≤ (l.length : Int) := by
      unfold mn
      split <;> omega
    have key : Ev (fun k => headseg_Lengths.j2 k c l acc ((16000 * i : Nat) : Int) true) (acc ++ segsFrom c l i (d + 1), 0) := by
      refine Ev.step (fun k => headseg_Lengths.j2.eq_2 ..) (Ev.pos rfl (Ev.pos (by omega) (Ev.pos (by rw [hmn]; omega) (Ev.pos (by rw [hmn]; omega) ?_))))
      rw [hmn, show (((16000 * i : Nat) : Int)).toNat = 16000 * i by omega, cut_chunk l i _ rfl]
      have hd : wrap64 (Int.tdiv ((16000 * i : Nat) : Int) 16000) % 256 = (i : Int) % 256 := by
        rw [show Int.tdiv ((16000 * i : Nat) : Int) 16000 = (i : Int) by rw [Int.tdiv_eq_ediv_of_nonneg (by omega)]; omega]
        unfold wrap64
        omega
      rw [hd]
      have hcl : (chunk l i).length ≤ 40000 := by unfold chunk; rw [List.length_take, List.length_drop]; omega
      refine len_inner c l acc _ (chunk l i) hcl (by omega) (chunk l i).length 0 _ (by omega) (by simp) ?_
      rw [show wrap64 (((16000 * i : Nat) : Int) + 16000) = ((16000 * (i + 1) : Nat) : Int) by unfold wrap64; omega]
      have := ih (i + 1) (acc ++ [segAt c l i]) (by omega) (by simp; omega)
      simpa [segsFrom, segAt] using this
    refine Ev.step (fun k => headseg_Lengths.l0.eq_2 ..) ?_
    by_cases h0 : i = 0
    · subst h0
      exact Ev.pos (by omega) key
    · refine Ev.neg (by omega) ?_
      rw [decide_eq_true (show ((16000 * i : Nat) : Int) < (l.length : Int) by omega)]
      exact key
theorem len_ev (c : Int) (l : List Int) (hl : l.length ≤ 40000) : Ev (fun k => headseg_Lengths.f k c l) (LenF c l) := by
  have hj : Ev (fun k => headseg_Lengths.j0 k c l true) ([], 3) := Ev.step (fun k => headseg_Lengths.j0.eq_2 ..) (Ev.pos rfl (Ev.now _))
  have hk : Ev (fun k => headseg_Lengths.j0 k c l false) (if inside 0 4294967295 l then (segsFrom c l 0 (nseg l), 0) else ([], 2)) := by
    refine Ev.step (fun k => headseg_Lengths.j0.eq_2 ..) (Ev.neg (by simp) (Ev.neg (by omega) (Ev.bind (ev_within 0 4294967295 l (by omega)) ?_)))
    cases hw : inside 0 4294967295 l with
    | true => exact Ev.pos rfl (by have := len_outer c l hl (nseg l) 0 [] (by omega) (by simp); simpa using this)
    | false => exact Ev.neg (by simp) (Ev.now _)
  unfold LenF
  refine Ev.congr (fun k => headseg_Lengths.f.eq_1 ..) ?_
  by_cases h1 : c = 65445
  · rw [if_neg (fun h => h (.inl h1))]
    exact Ev.pos h1 hk
  · refine Ev.neg h1 ?_
    by_cases h2 : c = 65457
    · rw [if_neg (fun h => h (.inr h2)), show (c != 65457) = false by simp [h2]]
      exact hk
    · rw [if_pos (by omega), show (c != 65457) = true by simp [h2]]
      exact hj
theorem seg_length (c : Int) (l : List Int) (i : Nat) : (segAt c l i).f1.length ≤ 64001 := by
  simp only [segAt, List.length_cons, enc4_length, chunk, List.length_take]
  omega
theorem segsFrom_length (c : Int) (l : List Int) : ∀ (d i : Nat), (segsFrom c l i d).length = d
  | 0, i => rfl
  | d + 1, i => by simp [segsFrom, segsFrom_length c l d]
theorem segsFrom_get (c : Int) (l : List Int) : ∀ (d i j : Nat) (h : j < (segsFrom c l i d).length), (segsFrom c l i d)[j] = segAt c l (i + j)
  | 0, i, j, h => by simp [segsFrom] at h
  | d + 1, i, 0, h => by simp [segsFrom]
  | d + 1, i, j + 1, h => by
    simp only [segsFrom, List.getElem_cons_succ]
    rw [segsFrom_get c l d (i + 1) j]
    congr 1
    omega
end Go.Proofs.Ytihfopblmjgfaaa.Pure

/- Reading numbers, in the limit. -/
namespace Go.Proofs.Ytihfopblmjgfaaa.Pure
open Go.RowKit Go.Proofs.Ytihfopblmjgfaaa.Q Go.Proofs.YtihfopblmjgfaaaW.PrintWords
set_option linter.unusedVariables false
set_option maxRecDepth 100000
theorem ev_rdn {ρ : Type} {l : List Int} {p n : Int} {bad : Int → ρ} {f : Nat → Int → Option ρ} {v : Int} {r : ρ} (h : Ev (fun k => marker_ReadUint.f k l p n) (v, 0)) (hf : Ev (fun k => f k v) r) : Ev (fun k => rdn k l p n bad (f k)) r := Ev.bind h (Ev.pos rfl hf)
theorem ev_rdn_bad {ρ : Type} {l : List Int} {p n : Int} {bad : Int → ρ} {f : Nat → Int → Option ρ} {v e : Int} (he : e ≠ 0) (h : Ev (fun k => marker_ReadUint.f k l p n) (v, e)) : Ev (fun k => rdn k l p n bad (f k)) (bad e) := Ev.bind h (Ev.neg he (Ev.now _))
theorem ev_in (l : List Int) (hl : l.length ≤ 1000000) (a n : Nat) (h1 : 1 ≤ n) (hn : n ≤ 4) (han : a + n ≤ l.length) : Ev (fun k => marker_ReadUint.f k l (a : Int) (n : Int)) (num (sub l a n), 0) := by
  have := ev_ru l (a : Int) (n : Int) hl (by omega)
  rwa [RU_in l a n h1 hn han] at this
theorem ev_out (l : List Int) (hl : l.length ≤ 1000000) (a n : Nat) (h1 : 1 ≤ n) (hn : n ≤ 4) (ha : a ≤ l.length) (han : l.length < a + n) : Ev (fun k => marker_ReadUint.f k l (a : Int) (n : Int)) (0, 7) := by
  have := ev_ru l (a : Int) (n : Int) hl (by omega)
  rwa [RU_out l a n h1 hn ha han] at this
theorem sub_one (l : List Int) (a : Nat) (h : a < l.length) : sub l a 1 = [l[a]] := by
  unfold sub
  rw [List.drop_take, show a + 1 - a = 1 by omega, List.drop_eq_getElem_cons h]
  rfl
theorem num_one {l : List Int} (hb : ∀ x ∈ l, (Lit.int .u8 x).wf = true) (a : Nat) (h : a < l.length) : num (sub l a 1) = l[a] := by
  rw [sub_one l a h]
  obtain ⟨h0, h1⟩ := wf_u8 (hb _ (List.getElem_mem h))
  simp only [num, List.foldl]
  rw [step_eq (by omega) (by omega) h0 h1]
  omega
theorem getD_at {l : List Int} (i : Nat) (h : i < l.length) : l.getD i 0 = l[i] := by
  rw [List.getD_eq_getElem?_getD, List.getElem?_eq_getElem h]
  rfl
end Go.Proofs.Ytihfopblmjgfaaa.Pure

/- Coding: what it computes. Printed by wip/tools/genPureCoding.py of this session. -/
namespace Go.Proofs.Ytihfopblmjgfaaa.Pure
open Go.RowKit Go.Proofs.Ytihfopblmjgfaaa.Q Go.Proofs.YtihfopblmjgfaaaW.PrintWords
set_option linter.unusedVariables false
set_option maxRecDepth 100000

/-- The number of the first i flags. -/
def part (fl : List Bool) : Nat → Int
  | 0 => 0
  | i + 1 => part fl i + (if bat fl (i : Int) = true then 2 ^ i else 0)
theorem part_or : ∀ b0 b1 b2 b3 b4 b5 b6 b7 : Bool, ∀ i : Fin 8, bat [b0, b1, b2, b3, b4, b5, b6, b7] ((i.val : Nat) : Int) = true → Go.bits .or .i64 (part [b0, b1, b2, b3, b4, b5, b6, b7] i.val) (wrap64 (2 ^ min ((i.val : Nat) : Int).toNat 64)) = part [b0, b1, b2, b3, b4, b5, b6, b7] (i.val + 1) := by decide +kernel
theorem part_le : ∀ b0 b1 b2 b3 b4 b5 b6 b7 : Bool, 0 ≤ part [b0, b1, b2, b3, b4, b5, b6, b7] 8 ∧ part [b0, b1, b2, b3, b4, b5, b6, b7] 8 ≤ 255 := by decide +kernel
theorem part_none (fl : List Bool) (i : Nat) (h : bat fl (i : Int) = false) : part fl (i + 1) = part fl i := by simp [part, h]
/-- The numbers' bytes. -/
def enc1 : List Int → List Int
  | [] => []
  | v :: l => v % 256 :: enc1 l
theorem enc1_length : ∀ l : List Int, (enc1 l).length = l.length
  | [] => rfl
  | v :: l => by simp [enc1, enc1_length l]
/-- The precincts' bytes. -/
def encP : List S89 → List Int
  | [] => []
  | q :: l => wrap64 (q.f0 + wrap64 (16 * q.f1)) % 256 :: encP l
theorem encP_length : ∀ l : List S89, (encP l).length = l.length
  | [] => rfl
  | v :: l => by simp [encP, encP_length l]
def precOK : List S89 → Bool
  | [] => true
  | q :: l => ((decide (0 ≤ q.f0) && decide (q.f0 ≤ 15)) && (decide (0 ≤ q.f1) && decide (q.f1 ≤ 15))) && precOK l
theorem rdP_at {s : List S89} (i : Nat) (hi : i < s.length) : rd_T89 s (i : Int) = s[i] := by
  unfold rd_T89
  rw [Int.toNat_natCast, List.getD_eq_getElem?_getD, List.getElem?_eq_getElem hi]
  rfl
/-- What comes of the precincts, behind the bytes b. -/
def CodC (t : List S89) (b : List Int) : Int × List Int × Int := if precOK t = true then (65442, b ++ encP t, 0) else (0, [], 2)
theorem CodC_cons (q : S89) (t : List S89) (b : List Int) : CodC (q :: t) b = if ((decide (0 ≤ q.f0) && decide (q.f0 ≤ 15)) && (decide (0 ≤ q.f1) && decide (q.f1 ≤ 15))) = true then CodC t (b ++ [wrap64 (q.f0 + wrap64 (16 * q.f1)) % 256]) else (0, [], 2) := by
  unfold CodC
  rw [precOK, encP]
  generalize ((decide (0 ≤ q.f0) && decide (q.f0 ≤ 15)) && (decide (0 ≤ q.f1) && decide (q.f1 ≤ 15))) = c
  cases c
  · simp
  · simp
theorem hcC_ev (t : List S89) (ht : t.length ≤ 1000) (n : Nat) : ∀ (i : Nat) (b : List Int), i + n = t.length → b.length ≤ 1000 + i → Ev (fun k => hcC k t b (i : Int)) (CodC (t.drop i) b) := by
  induction n with
  | zero =>
    intro i b hi hb
    rw [List.drop_eq_nil_of_le (by omega)]
    exact Ev.step (fun k => hcC.eq_2 ..) (Ev.neg (by omega) (by simpa [CodC, precOK, encP] using Ev.now ((65442 : Int), b, (0 : Int))))
  | succ n ih =>
    intro i b hi hb
    have hlt : i < t.length := by omega
    have w1 := ev_within 0 15 [t[i].f0, t[i].f1] (by simp)
    rw [show inside 0 15 [t[i].f0, t[i].f1] = ((decide (0 ≤ t[i].f0) && decide (t[i].f0 ≤ 15)) && (decide (0 ≤ t[i].f1) && decide (t[i].f1 ≤ 15))) by simp [inside]] at w1
    rw [List.drop_eq_getElem_cons hlt, CodC_cons]
    refine Ev.step (fun k => hcC.eq_2 ..) (Ev.pos (by omega) (Ev.pos (by omega) ?_))
    rw [rdP_at i hlt, show wrap64 ((i : Int) + 1) = ((i + 1 : Nat) : Int) by unfold wrap64; omega]
    refine Ev.bind w1 ?_
    generalize ((decide (0 ≤ t[i].f0) && decide (t[i].f0 ≤ 15)) && (decide (0 ≤ t[i].f1) && decide (t[i].f1 ≤ 15))) = c
    cases c with
    | false => exact Ev.neg (by simp) (by simpa using Ev.now ((0 : Int), ([] : List Int), (2 : Int)))
    | true =>
      rw [if_pos rfl]
      exact Ev.pos rfl (Ev.pos (by omega) (ih (i + 1) _ (by omega) (by simp; omega)))
theorem hcB_ev (t : List S89) (ht : t.length ≤ 1000) (L : List Int) (hL : L.length ≤ 100) (n : Nat) : ∀ (i : Nat) (b : List Int), i + n = L.length → b.length ≤ i → Ev (fun k => hcB k t L b (i : Int)) (CodC t (b ++ enc1 (L.drop i))) := by
  induction n with
  | zero =>
    intro i b hi hb
    rw [List.drop_eq_nil_of_le (by omega)]
    refine Ev.step (fun k => hcB.eq_2 ..) (Ev.neg (by omega) ?_)
    have := hcC_ev t ht t.length 0 b (by omega) (by omega)
    simpa [enc1] using this
  | succ n ih =>
    intro i b hi hb
    have hlt : i < L.length := by omega
    refine Ev.step (fun k => hcB.eq_2 ..) (Ev.pos (by omega) (Ev.pos (by omega) (Ev.pos (by omega) ?_)))
    rw [rd_at i hlt, show wrap64 ((i : Int) + 1) = ((i + 1 : Nat) : Int) by unfold wrap64; omega, List.drop_eq_getElem_cons hlt]
    have := ih (i + 1) (b ++ [L[i] % 256]) (by omega) (by simp; omega)
    simpa [enc1] using this
theorem hcA_ev (t : List S89) (ht : t.length ≤ 1000) (b0 b1 b2 b3 b4 b5 b6 b7 : Bool) (x0 x1 x2 x3 x4 x6 x7 x18 : Int) (n : Nat) : ∀ (i : Nat), i + n = 8 → Ev (fun k => hcA k t [b0, b1, b2, b3, b4, b5, b6, b7] [x0, x1, x2, x3, x4, x6, x7, part [b0, b1, b2, b3, b4, b5, b6, b7] i, x18] (i : Int)) (CodC t (enc1 [x0, x1, x2, x3, x4, x6, x7, part [b0, b1, b2, b3, b4, b5, b6, b7] 8, x18, (t.length : Int)])) := by
  induction n with
  | zero =>
    intro i hi
    obtain rfl : i = 8 := by omega
    refine Ev.step (fun k => hcA.eq_2 ..) (Ev.neg (by omega) ?_)
    exact hcB_ev t ht [x0, x1, x2, x3, x4, x6, x7, part [b0, b1, b2, b3, b4, b5, b6, b7] 8, x18, (t.length : Int)] (by simp) 10 0 [] (by simp) (by simp)
  | succ n ih =>
    intro i hi
    have hw : wrap64 ((i : Int) + 1) = ((i + 1 : Nat) : Int) := by unfold wrap64; omega
    refine Ev.step (fun k => hcA.eq_2 ..) (Ev.pos (by omega) (Ev.pos (by omega) ?_))
    rw [hw]
    have := ih (i + 1) (by omega)
    by_cases hb : bat [b0, b1, b2, b3, b4, b5, b6, b7] (i : Int) = true
    · refine Ev.pos hb ?_
      have hp : Go.bits .or .i64 (part [b0, b1, b2, b3, b4, b5, b6, b7] i) (wrap64 (2 ^ min (i : Int).toNat 64)) = part [b0, b1, b2, b3, b4, b5, b6, b7] (i + 1) := part_or b0 b1 b2 b3 b4 b5 b6 b7 ⟨i, by omega⟩ hb
      rw [show rd [x0, x1, x2, x3, x4, x6, x7, part [b0, b1, b2, b3, b4, b5, b6, b7] i, x18] 7 = part [b0, b1, b2, b3, b4, b5, b6, b7] i from rfl, hp]
      exact this
    · refine Ev.neg hb ?_
      rw [part_none _ i (by simpa using hb)] at this
      exact this
def codL (p0 : Int) (p1 : Int) (p2 : Int) (p3 : Int) (p4 : Int) (t : List S89) (p6 : Int) (p7 : Int) (b0 : Bool) (b1 : Bool) (b2 : Bool) (b3 : Bool) (b4 : Bool) (b5 : Bool) (b6 : Bool) (b7 : Bool) (s : List Int) (dd : Int) (p18 : Int) : List Int := [p0, p1, p2, p3, p4, p6, p7, part [b0, b1, b2, b3, b4, b5, b6, b7] 8, p18, (t.length : Int)]
/-- What Coding returns. -/
def CodF (p0 : Int) (p1 : Int) (p2 : Int) (p3 : Int) (p4 : Int) (t : List S89) (p6 : Int) (p7 : Int) (b0 : Bool) (b1 : Bool) (b2 : Bool) (b3 : Bool) (b4 : Bool) (b5 : Bool) (b6 : Bool) (b7 : Bool) (s : List Int) (dd : Int) (p18 : Int) : Int × List Int × Int := if inside 0 255 (codL p0 p1 p2 p3 p4 t p6 p7 b0 b1 b2 b3 b4 b5 b6 b7 s dd p18) = true then CodC t (enc1 (codL p0 p1 p2 p3 p4 t p6 p7 b0 b1 b2 b3 b4 b5 b6 b7 s dd p18)) else (0, [], 2)
theorem coding_ev (p0 : Int) (p1 : Int) (p2 : Int) (p3 : Int) (p4 : Int) (t : List S89) (p6 : Int) (p7 : Int) (b0 : Bool) (b1 : Bool) (b2 : Bool) (b3 : Bool) (b4 : Bool) (b5 : Bool) (b6 : Bool) (b7 : Bool) (s : List Int) (dd : Int) (p18 : Int) (ht : t.length ≤ 1000) : Ev (fun k => headseg_Coding.f k p0 p1 p2 p3 p4 t p6 p7 b0 b1 b2 b3 b4 b5 b6 b7 s dd p18) (CodF p0 p1 p2 p3 p4 t p6 p7 b0 b1 b2 b3 b4 b5 b6 b7 s dd p18) := by
  refine Ev.congr (fun k => headseg_Coding.f.eq_1 ..) ?_
  have w1 := ev_within 0 255 [p0, p1, p2, p3, p4, p6, p7, 0, p18] (by simp)
  have hp := part_le b0 b1 b2 b3 b4 b5 b6 b7
  have e : inside 0 255 (codL p0 p1 p2 p3 p4 t p6 p7 b0 b1 b2 b3 b4 b5 b6 b7 s dd p18) = (inside 0 255 [p0, p1, p2, p3, p4, p6, p7, 0, p18] && decide (t.length ≤ 255)) := by
    simp only [codL, inside, List.all_cons, List.all_nil, Bool.and_true]
    rw [decide_eq_true hp.1, decide_eq_true hp.2]
    simp only [Bool.and_assoc]
    have e1 : decide (0 ≤ (t.length : Int)) = true := decide_eq_true (by omega)
    have e2 : decide ((t.length : Int) ≤ 255) = decide (t.length ≤ 255) := by congr 1; apply propext; omega
    rw [e1, e2]
    simp
  unfold CodF
  rw [e]
  refine Ev.bind w1 ?_
  generalize inside 0 255 [p0, p1, p2, p3, p4, p6, p7, 0, p18] = c
  cases c with
  | false => exact Ev.neg (by simp) (by simpa using Ev.now ((0 : Int), ([] : List Int), (2 : Int)))
  | true =>
    refine Ev.pos rfl ?_
    by_cases h : (t.length : Int) > 255
    · rw [decide_eq_false (by omega)]
      exact Ev.pos h (by simpa using Ev.now ((0 : Int), ([] : List Int), (2 : Int)))
    · rw [decide_eq_true (show t.length ≤ 255 by omega)]
      refine Ev.neg h ?_
      rw [if_pos (by simp)]
      have := hcA_ev t ht b0 b1 b2 b3 b4 b5 b6 b7 p0 p1 p2 p3 p4 p6 p7 p18 8 0 (by omega)
      exact this
theorem CodC_length (t : List S89) (b : List Int) : (CodC t b).2.1.length ≤ b.length + t.length := by
  unfold CodC
  split
  · simp [encP_length]
  · simp
theorem CodF_length (p0 : Int) (p1 : Int) (p2 : Int) (p3 : Int) (p4 : Int) (t : List S89) (p6 : Int) (p7 : Int) (b0 : Bool) (b1 : Bool) (b2 : Bool) (b3 : Bool) (b4 : Bool) (b5 : Bool) (b6 : Bool) (b7 : Bool) (s : List Int) (dd : Int) (p18 : Int) (ht : t.length ≤ 1000) : (CodF p0 p1 p2 p3 p4 t p6 p7 b0 b1 b2 b3 b4 b5 b6 b7 s dd p18).2.1.length ≤ 2000 := by
  unfold CodF
  split
  · have := CodC_length t (enc1 (codL p0 p1 p2 p3 p4 t p6 p7 b0 b1 b2 b3 b4 b5 b6 b7 s dd p18))
    rw [enc1_length] at this
    have h : (codL p0 p1 p2 p3 p4 t p6 p7 b0 b1 b2 b3 b4 b5 b6 b7 s dd p18).length = 10 := rfl
    omega
  · simp
end Go.Proofs.Ytihfopblmjgfaaa.Pure
