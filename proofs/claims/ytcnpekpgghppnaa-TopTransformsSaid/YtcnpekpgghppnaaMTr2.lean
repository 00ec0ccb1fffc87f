/- Texts of this session (words and printed walks, merged by wip/tools/merge.py) for the statement of the claim. -/
import Derived.Test.YtcnpekpgghppnaaMTr1
/- lift.Forward. Printed by wip/tools of this session. -/
namespace Go.Proofs.Ytcnpekpgghppnaa.Q
open Go.RowKit Go.Proofs.YtcnpekpgghppnaaW.PrintWords Go.Proofs.YtcnpekpgghppnaaW.PrintLast Go.Proofs.YtcnpekpgghppnaaW.PrintMore
set_option linter.unusedVariables false
set_option linter.unusedSimpArgs false

theorem Bks.kept {n : Nat} {w0 W W' : World} {l : List (Nat × Nat × Array Value)} {S : Nat → Prop} (h : Bks n w0 W l) (hk : Kept W W' S) (hS : ∀ (i : Nat) (b : Nat × Nat × Array Value), l[i]? = some b → ¬ S b.1) (hB : Below n w0 W') : Bks n w0 W' l :=
  ⟨fun i b hi => blk_kept (h.blk i b hi) hk (hS i b hi), h.ne, h.ge, hB⟩
theorem Bks.kept1 {n : Nat} {w0 W W' : World} {g t a : Nat} {cs : Array Value} (h : Bks n w0 W [(g, t, cs)]) (hk : Kept W W' (fun k => k = a)) (hS : g ≠ a) (hB : Below n w0 W') : Bks n w0 W' [(g, t, cs)] :=
  h.kept hk (fun i b hi => by
    match i, hi with
    | 0, hi => cases hi; exact hS
    | i + 1, hi => simp at hi) hB
/-- The low and the high half of a line. -/
def fwdF (kk : Int) (k : Nat) (start : Int) (xs : List Int) : Option (List Int × List Int) :=
  if 1 < (xs.length : Int) then (stepF (prF kk k) start 1 (-1) k 0 xs).bind fun y => (stepF (upF kk k) start 0 1 k 0 y).bind fun z => splitF start z k 0 [] [] else splitF start xs k 0 [] []
theorem stepF_length {fq : List Int → Int → Option Int} {start par sg : Int} : ∀ {k : Nat} {i : Int} {xs ys : List Int}, stepF fq start par sg k i xs = some ys → ys.length = xs.length
  | 0, _, _, _, h => by simp [stepF] at h
  | k + 1, i, xs, ys, h => by
    rw [stepF.eq_2] at h
    split at h
    · split at h
      · split at h
        · obtain ⟨v, _, h⟩ := Option.bind_eq_some_iff.mp h
          have := stepF_length h
          rwa [List.length_set] at this
        · exact stepF_length h
      · cases h
    · rw [Option.some.inj h]
theorem bks_one {n g t : Nat} {w0 W W' : World} {cs : Array Value} (hg : g = W.heap.size) (hbox : W'.heap[g]? = some (.cells cs t (0, 0))) (hB : Below n w0 W') (hn : n ≤ g) : Bks n w0 W' [(g, t, cs)] :=
  ⟨fun i b hi => by
    match i, hi with
    | 0, hi => cases hi; exact hbox
    | i + 1, hi => simp at hi, fun i j b c hij hi hj => by
    match i, hi, j, hj with
    | 0, hi, 0, hj => exact absurd rfl hij
    | 0, hi, j + 1, hj => simp at hj
    | i + 1, hi, _, _ => simp at hi, fun i b hi => by
    match i, hi with
    | 0, hi => cases hi; exact hn
    | i + 1, hi => simp at hi, hB⟩
set_option maxHeartbeats 8000000 in
set_option maxRecDepth 100000 in
theorem lift_Forward.good (k kb : Nat) (kk : Int) (A : Option Addr) (c : Nat) (xs : List Int) (start : Int) (lo hi : List Int) (w : World) (hr : Kd.C (Kd.int .i64) w A xs.length xs) (hc : xs.length ≤ c) (hk1 : 1 ≤ kk) (hk3 : kk ≤ 3) (h0 : 0 ≤ start) (h1 : start ≤ 4096) (hl : xs.length ≤ 4096) (hbd : lift_bounded.f kb xs 281474976710656 = some true) (h : fwdF kk k start xs = some (lo, hi)) :
    Calls Try.prog 59 #[.slice A xs.length c, .int .i64 start, .int .i64 kk] w fun e w' => ∃ v1 v2, e = .returned (.tuple #[v1, v2, .int .i64 0]) ∧ Kd.R (Kd.int .i64) 3 w' w.heap.size (fun _ => True) v1 lo ∧ Kd.R (Kd.int .i64) 3 w' w.heap.size (fun _ => True) v2 hi ∧ Below w.heap.size w w' := by
  have HR := Aside0.mk hr
  have HC := Aside0.mk hc
  have HLN := Aside0.mk hl
  have HST := Aside0.mk (And.intro h0 h1)
  have HBD := Aside0.mk hbd
  have HKN := Aside0.mk (show lift_known.f kk = some true by unfold lift_known.f; rw [if_pos (by omega), decide_eq_true hk3])
  have b0 : decide (start < 0) = false := decide_eq_false (by omega)
  have b1 : decide (4096 < start) = false := decide_eq_false (by omega)
  have b2 : decide (4096 < (xs.length : Int)) = false := decide_eq_false (by omega)
  have b3 : decide (4096 < xs.length) = false := decide_eq_false (by omega)
  have BW := Aside0.mk (Below.refl w.heap.size w)
  unfold fwdF at h
  clear hr hc h0 h1 hl hbd hk1 hk3
  go_enter Try.func59, Try.ntmps59
  by_cases hlen : 1 < (xs.length : Int)
  rotate_left
  · rw [if_neg hlen] at h
    have H := Aside0.mk h
    have b4 : decide (1 < (xs.length : Int)) = false := decide_eq_false hlen
    have b5 : decide (1 < xs.length) = false := decide_eq_false (by omega)
    have HLY := Aside0.mk (show xs.length ≤ xs.length from Nat.le_refl _)
    clear h hlen
    go_wp2_with (first
    | (go_at_call 75; (with_reducible refine (lift_known.calls _ true _ HKN.out).mono ?_); rintro _ w1 ⟨rfl, hq⟩; have BW' := Aside0.mk (BW.out.trans (hq.below.mono BW.out.size)); clear BW hq; have BW := BW'; clear BW')
    | (go_at_call 76; (with_reducible refine (lift_bounded.calls kb A c xs 281474976710656 true _ (Kd.C_below HR.out BW.out) HC.out HBD.out).mono ?_); rintro _ w2 ⟨rfl, hq⟩; have BW' := Aside0.mk (BW.out.trans (hq.below.mono BW.out.size)); clear BW hq; have BW := BW'; clear BW')
    | ((with_reducible refine gate_builtin (b := .append) (xs := #[.const (.slice none 0 0), .tmp 29]) rfl ?_); at_builtin; refine Kd.R_append_rows (Kd.int .i64) (w0 := w) w.heap.size rfl (.const (.slice none 0 0)) (.tmp 29) 24 3 (.int .i64 0) 8 rfl Try.underlying24 info3 rfl (by decide) (by omega) (.slice none 0 0) [] xs A xs.length c (fun _ => True) (fun _ => False) rfl rfl (Kd.R_nil _ _ _ _ _) (Kd.C_below HR.out BW.out) (fun _ _ h => h) (fun _ h => h.elim) (fun _ _ => trivial) BW.out (below_size BW.out) (by have := HLN.out; simp; omega) ?_; intro v0 w3 ho hb hg hat; rw [List.nil_append] at ho; obtain ⟨Al, cl, rfl⟩ := Kd.R_slice ho; have HL := Aside0.mk ho; have BW' := Aside0.mk hb; clear BW ho hb hg hat; have BW := BW'; clear BW')
    | ((with_reducible refine gate_dst (N := 9) rfl ?_); refine box_event ?hg (N := 9) ?hd (cs := #[.slice none 0 0, .int .i64 0]) (t := 97) ?hr ?_; (case hd => rfl); (case hg => rfl); (case hr => first | (go_simp; done) | (go_simp; rfl)); intro g9 hg W9 hbox hb; have K := Aside0.mk (bks_one hg hbox (BW.out.trans (hb.mono BW.out.size)) (by rw [hg]; exact below_size BW.out)); have HL' := Aside0.mk (Kd.R_below HL.out hb); clear HL hg hbox hb BW; have HL := HL'; clear HL')
    | ((with_reducible refine gate_store (t := 97) (p := 9) (v := .tmp 32) rfl ?_); refine store_ev rfl rfl 97 (.tmp 9) (.tmp 32) rfl rfl rfl (K.out.get 0 rfl) rfl rfl (by first | (kernel_rfl) | (simp [Value.oneCell'])) ?_; intro W9s hs; have HL' := Aside0.mk (row_stored HL.out (K.out.get 0 rfl) (by decide) hs); have K' := Aside0.mk (K.out.stored 0 rfl hs); clear HL K hs; have HL := HL'; have K := K'; clear HL' K'; have f0 : W9s.cell? ⟨g9, 0, none⟩ = some (.slice Al xs.length cl) := K.out.cell 0 rfl 0 rfl)
    | (go_at_call 80; (with_reducible refine (extend_Split.good k _ _ xs start lo hi _ (Kd.R_reads' HL.out).2.2 HST.out.1 HST.out.2 (by have := HLN.out; have := HLY.out; omega) H.out).mono ?_); rintro _ w8 ⟨v1, v2, rfl, r1, r2, b⟩; have R1 := Aside0.mk (Kd.R_lower r1 (below_size K.out.below)); have R2 := Aside0.mk (Kd.R_lower r2 (below_size K.out.below)); have BW := Aside0.mk (K.out.below.trans (b.mono (below_size K.out.below))); clear r1 r2 b))
    go_ret3
    exact ⟨_, _, rfl, R1.out, R2.out, BW.out⟩
  rw [if_pos hlen] at h
  have b4 : decide (1 < (xs.length : Int)) = true := decide_eq_true hlen
  have b5 : decide (1 < xs.length) = true := decide_eq_true (by omega)
  obtain ⟨y, hy, h⟩ := Option.bind_eq_some_iff.mp h
  obtain ⟨z, hz, h⟩ := Option.bind_eq_some_iff.mp h
  have HY := Aside0.mk hy
  have HZ := Aside0.mk hz
  have H := Aside0.mk h
  have HLY := Aside0.mk (show z.length ≤ xs.length by rw [stepF_length hz, stepF_length hy]; exact Nat.le_refl _)
  have HP := Aside0.mk (show 0 < xs.length by omega)
  clear h hy hz hlen
  go_upto_region 7 with (first
    | (go_at_call 75; (with_reducible refine (lift_known.calls _ true _ HKN.out).mono ?_); rintro _ w1 ⟨rfl, hq⟩; have BW' := Aside0.mk (BW.out.trans (hq.below.mono BW.out.size)); clear BW hq; have BW := BW'; clear BW')
    | (go_at_call 76; (with_reducible refine (lift_bounded.calls kb A c xs 281474976710656 true _ (Kd.C_below HR.out BW.out) HC.out HBD.out).mono ?_); rintro _ w2 ⟨rfl, hq⟩; have BW' := Aside0.mk (BW.out.trans (hq.below.mono BW.out.size)); clear BW hq; have BW := BW'; clear BW')
    | ((with_reducible refine gate_builtin (b := .append) (xs := #[.const (.slice none 0 0), .tmp 29]) rfl ?_); at_builtin; refine Kd.R_append_rows (Kd.int .i64) (w0 := w) w.heap.size rfl (.const (.slice none 0 0)) (.tmp 29) 24 3 (.int .i64 0) 8 rfl Try.underlying24 info3 rfl (by decide) (by omega) (.slice none 0 0) [] xs A xs.length c (fun _ => True) (fun _ => False) rfl rfl (Kd.R_nil _ _ _ _ _) (Kd.C_below HR.out BW.out) (fun _ _ h => h) (fun _ h => h.elim) (fun _ _ => trivial) BW.out (below_size BW.out) (by have := HLN.out; simp; omega) ?_; intro v0 w3 ho hb hg hat; rw [List.nil_append] at ho; obtain ⟨a, c2, rfl, -⟩ := Kd.R_form ho HP.out; have HL := Aside0.mk ho; have BW' := Aside0.mk hb; clear BW ho hb hg hat; have BW := BW'; clear BW')
    | ((with_reducible refine gate_dst (N := 9) rfl ?_); refine box_event ?hg (N := 9) ?hd (cs := #[.slice none 0 0, .int .i64 0]) (t := 97) ?hr ?_; (case hd => rfl); (case hg => rfl); (case hr => first | (go_simp; done) | (go_simp; rfl)); intro g9 hg W9 hbox hb; have K := Aside0.mk (bks_one hg hbox (BW.out.trans (hb.mono BW.out.size)) (by rw [hg]; exact below_size BW.out)); have HL' := Aside0.mk (Kd.R_below HL.out hb); clear HL hg hbox hb BW; have HL := HL'; clear HL')
    | ((with_reducible refine gate_store (t := 97) (p := 9) (v := .tmp 32) rfl ?_); refine store_ev rfl rfl 97 (.tmp 9) (.tmp 32) rfl rfl rfl (K.out.get 0 rfl) rfl rfl (by first | (kernel_rfl) | (simp [Value.oneCell'])) ?_; intro W9s hs; have HL' := Aside0.mk (row_stored HL.out (K.out.get 0 rfl) (by decide) hs); have K' := Aside0.mk (K.out.stored 0 rfl hs); clear HL K hs; have HL := HL'; have K := K'; clear HL' K'))
  clear b0 b1 b2 b3 HBD HKN HC
  have K' := Aside0.mk K.out.drew
  have HL' := Aside0.mk (Kd.R_drew HL.out)
  clear HL K
  have HL := HL'
  have K := K'
  clear HL' K'
  refine start_ (n := 5) (S := fun w' => w'.heap[g9]? = some (.cells #[.slice (some ⟨a, 0, none⟩) xs.length c2, .int .i64 start] 97 (0, 0))) (ds := []) #[false, false, false, false, false] (by kernel_rfl) rfl rfl (K.out.get 0 rfl) (fun hHeld0 => ?_)
  generalize hwp : W9s.drew = wpa at *
  clear hwp
  have hHeld := Aside0.mk hHeld0
  clear hHeld0
  refine take_ (i := 0) (N := some 36) (v := .agg #[.slice (some ⟨a, 0, none⟩) xs.length c2, .int .i64 start]) (a' := ?_) #[true, false, false, false, false] rfl rfl (by kernel_rfl) (fun _ _ _ h => h) (load_yields (by rfl) 97 (.tmp 9) rfl rfl (fun _ h => h) Try.underlying97 rfl) hHeld.out ?_ ?_
  rotate_left
  · simp only [Act.put, List.setIfInBounds_toArray, List.set_cons_zero, List.set_cons_succ, i64_w, i32_w]
    rfl
  refine take_ (i := 1) (N := some 37) (v := .agg #[.slice (some ⟨a, 0, none⟩) xs.length c2, .int .i64 start]) (a' := ?_) #[true, true, false, false, false] rfl rfl (by kernel_rfl) (fun _ _ _ h => h) (load_yields (by rfl) 97 (.tmp 9) rfl rfl (fun _ h => h) Try.underlying97 rfl) hHeld.out ?_ ?_
  rotate_left
  · simp only [Act.put, List.setIfInBounds_toArray, List.set_cons_zero, List.set_cons_succ, i64_w, i32_w]
    rfl
  refine pure_ (i := 2) (N := some 38) (v := ?_) (a' := ?_) #[true, true, true, false, false] rfl rfl (by kernel_rfl) (fun _ _ _ h => h) (Or.inl ⟨by rfl, ?_⟩) ?_ ?_
  rotate_left
  · intro w'
    go_simp
    with_reducible rfl
  rotate_left
  · simp only [Act.put, List.setIfInBounds_toArray, List.set_cons_zero, List.set_cons_succ, i64_w, i32_w]
    rfl
  refine one_ (i := 3) (N := some 39) #[true, true, true, true, false] rfl rfl (by kernel_rfl) (by decide) (fun KC hK => ?_)
  refine goes_ Try.func78 (by kernel_rfl) rfl #[.agg #[.slice (some ⟨a, 0, none⟩) xs.length c2, .int .i64 start], .int .i64 kk] (by rfl) rfl rfl (by simp only [List.map_toArray, List.map_cons, List.map_nil]; rfl) ?_
  refine (predict.calls kk (some ⟨a, 0, none⟩) xs.length c2 start _).mono ?_
  rintro _ wpb ⟨g, rfl, hgb, hge, b⟩
  refine ⟨_, rfl, ?_⟩
  have HGB := Aside0.mk hgb
  have HL' := Aside0.mk (Kd.R_below HL.out b)
  have K' := Aside0.mk (K.out.call (below_size K.out.below) b)
  clear HL K b hgb hge
  have HL := HL'
  have K := K'
  clear HL' K'
  refine hK.out _ _ (K.out.get 0 rfl) (fun hHeld => ?_)
  clear hK KC
  refine norm_ (a' := ?_) ?_ ?_
  rotate_left
  · show Act.put _ (some 39) _ = _
    simp only [Act.put, List.setIfInBounds_toArray, List.set_cons_zero, List.set_cons_succ, i64_w, i32_w]
    rfl
  refine one_ (i := 4) (N := some 40) #[true, true, true, true, true] rfl rfl (by kernel_rfl) (by decide) (fun KC hK => ?_)
  obtain ⟨fn, hf1, hf2, hf3⟩ := predN_func kk
  refine goes_ Try.func77 (by kernel_rfl) rfl #[.agg #[.slice (some ⟨a, 0, none⟩) xs.length c2, .int .i64 start], .int .i64 1, .int .i64 (-1), .func (.func (predN kk)) #[] #[.pointer (some ⟨g, 0, none⟩)]] (by rfl) rfl rfl (by simp only [List.map_toArray, List.map_cons, List.map_nil]; rfl) ?_
  refine (line_step.calls (predN kk) fn hf1 hf2 hf3 (prF kk k) (pr_fn kk k) k g a c2 xs.length xs y start 1 (-1) w w.heap.size (fun _ => True) _ HL.out HGB.out K.out.below HY.out).mono ?_
  rintro _ wpc ⟨rfl, hR, hk, hB⟩
  refine ⟨_, rfl, ?_⟩
  have hne : g9 ≠ a := fun e => Kd.R_ne HL.out (K.out.get 0 rfl) (by decide) (by rw [e]; rfl)
  have K' := Aside0.mk (K.out.kept1 hk hne hB)
  have HL' := Aside0.mk hR
  clear HL K hk hne hB hR HGB hf1 hf2 hf3
  have HL := HL'
  have K := K'
  clear HL' K'
  refine hK.out _ _ (K.out.get 0 rfl) (fun hHeld => ?_)
  clear hK KC
  refine norm_ (a' := ?_) ?_ ?_
  rotate_left
  · show Act.put _ (some 40) _ = _
    simp only [Act.put, List.setIfInBounds_toArray, List.set_cons_zero, List.set_cons_succ, i64_w, i32_w]
    rfl
  refine done_ (by kernel_rfl) ?_
  clear hHeld
  go_wp2
  have K' := Aside0.mk K.out.drew
  have HL' := Aside0.mk (Kd.R_drew HL.out)
  clear HL K
  have HL := HL'
  have K := K'
  clear HL' K'
  refine start_ (n := 5) (S := fun w' => w'.heap[g9]? = some (.cells #[.slice (some ⟨a, 0, none⟩) xs.length c2, .int .i64 start] 97 (0, 0))) (ds := []) #[false, false, false, false, false] (by kernel_rfl) rfl rfl (K.out.get 0 rfl) (fun hHeld0 => ?_)
  generalize hwq : wpc.drew = wqa at *
  clear hwq
  have hHeld := Aside0.mk hHeld0
  clear hHeld0
  refine take_ (i := 0) (N := some 41) (v := .agg #[.slice (some ⟨a, 0, none⟩) xs.length c2, .int .i64 start]) (a' := ?_) #[true, false, false, false, false] rfl rfl (by kernel_rfl) (fun _ _ _ h => h) (load_yields (by rfl) 97 (.tmp 9) rfl rfl (fun _ h => h) Try.underlying97 rfl) hHeld.out ?_ ?_
  rotate_left
  · simp only [Act.put, List.setIfInBounds_toArray, List.set_cons_zero, List.set_cons_succ, i64_w, i32_w]
    rfl
  refine take_ (i := 1) (N := some 42) (v := .agg #[.slice (some ⟨a, 0, none⟩) xs.length c2, .int .i64 start]) (a' := ?_) #[true, true, false, false, false] rfl rfl (by kernel_rfl) (fun _ _ _ h => h) (load_yields (by rfl) 97 (.tmp 9) rfl rfl (fun _ h => h) Try.underlying97 rfl) hHeld.out ?_ ?_
  rotate_left
  · simp only [Act.put, List.setIfInBounds_toArray, List.set_cons_zero, List.set_cons_succ, i64_w, i32_w]
    rfl
  refine pure_ (i := 2) (N := some 43) (v := ?_) (a' := ?_) #[true, true, true, false, false] rfl rfl (by kernel_rfl) (fun _ _ _ h => h) (Or.inl ⟨by rfl, ?_⟩) ?_ ?_
  rotate_left
  · intro w'
    go_simp
    with_reducible rfl
  rotate_left
  · simp only [Act.put, List.setIfInBounds_toArray, List.set_cons_zero, List.set_cons_succ, i64_w, i32_w]
    rfl
  refine one_ (i := 3) (N := some 44) #[true, true, true, true, false] rfl rfl (by kernel_rfl) (by decide) (fun KC hK => ?_)
  refine goes_ Try.func79 (by kernel_rfl) rfl #[.agg #[.slice (some ⟨a, 0, none⟩) xs.length c2, .int .i64 start], .int .i64 kk] (by rfl) rfl rfl (by simp only [List.map_toArray, List.map_cons, List.map_nil]; rfl) ?_
  refine (update.calls kk (some ⟨a, 0, none⟩) xs.length c2 start _).mono ?_
  rintro _ wqb ⟨g, rfl, hgb, hge, b⟩
  refine ⟨_, rfl, ?_⟩
  have HGB := Aside0.mk hgb
  have HL' := Aside0.mk (Kd.R_below HL.out b)
  have K' := Aside0.mk (K.out.call (below_size K.out.below) b)
  clear HL K b hgb hge
  have HL := HL'
  have K := K'
  clear HL' K'
  refine hK.out _ _ (K.out.get 0 rfl) (fun hHeld => ?_)
  clear hK KC
  refine norm_ (a' := ?_) ?_ ?_
  rotate_left
  · show Act.put _ (some 44) _ = _
    simp only [Act.put, List.setIfInBounds_toArray, List.set_cons_zero, List.set_cons_succ, i64_w, i32_w]
    rfl
  refine one_ (i := 4) (N := some 45) #[true, true, true, true, true] rfl rfl (by kernel_rfl) (by decide) (fun KC hK => ?_)
  obtain ⟨fn, hf1, hf2, hf3⟩ := updN_func kk
  refine goes_ Try.func77 (by kernel_rfl) rfl #[.agg #[.slice (some ⟨a, 0, none⟩) xs.length c2, .int .i64 start], .int .i64 0, .int .i64 (1), .func (.func (updN kk)) #[] #[.pointer (some ⟨g, 0, none⟩)]] (by rfl) rfl rfl (by simp only [List.map_toArray, List.map_cons, List.map_nil]; rfl) ?_
  refine (line_step.calls (updN kk) fn hf1 hf2 hf3 (upF kk k) (up_fn kk k) k g a c2 xs.length y z start 0 (1) w w.heap.size (fun _ => True) _ HL.out HGB.out K.out.below HZ.out).mono ?_
  rintro _ wqc ⟨rfl, hR, hk, hB⟩
  refine ⟨_, rfl, ?_⟩
  have hne : g9 ≠ a := fun e => Kd.R_ne HL.out (K.out.get 0 rfl) (by decide) (by rw [e]; rfl)
  have K' := Aside0.mk (K.out.kept1 hk hne hB)
  have HL' := Aside0.mk hR
  clear HL K hk hne hB hR HGB hf1 hf2 hf3
  have HL := HL'
  have K := K'
  clear HL' K'
  refine hK.out _ _ (K.out.get 0 rfl) (fun hHeld => ?_)
  clear hK KC
  refine norm_ (a' := ?_) ?_ ?_
  rotate_left
  · show Act.put _ (some 45) _ = _
    simp only [Act.put, List.setIfInBounds_toArray, List.set_cons_zero, List.set_cons_succ, i64_w, i32_w]
    rfl
  refine done_ (by kernel_rfl) ?_
  clear hHeld
  have f0 : wqc.cell? ⟨g9, 0, none⟩ = some (.slice (some ⟨a, 0, none⟩) z.length c2) := by
    rw [← (Kd.R_reads' HL.out).1]
    exact K.out.cell 0 rfl 0 rfl
  go_wp2_with (go_at_call 80; (with_reducible refine (extend_Split.good k _ _ z start lo hi _ (Kd.R_reads' HL.out).2.2 HST.out.1 HST.out.2 (by have := HLN.out; have := HLY.out; omega) H.out).mono ?_); rintro _ w8 ⟨v1, v2, rfl, r1, r2, b⟩; have R1 := Aside0.mk (Kd.R_lower r1 (below_size K.out.below)); have R2 := Aside0.mk (Kd.R_lower r2 (below_size K.out.below)); have BW := Aside0.mk (K.out.below.trans (b.mono (below_size K.out.below))); clear r1 r2 b)
  go_ret3
  exact ⟨_, _, rfl, R1.out, R2.out, BW.out⟩
end Go.Proofs.Ytcnpekpgghppnaa.Q

/- extend.Join, lift.Inverse. Printed by wip/tools of this session. -/
namespace Go.Proofs.Ytcnpekpgghppnaa.Q
open Go.RowKit Go.Proofs.YtcnpekpgghppnaaW.PrintWords Go.Proofs.YtcnpekpgghppnaaW.PrintLast Go.Proofs.YtcnpekpgghppnaaW.PrintMore
set_option linter.unusedVariables false
set_option linter.unusedSimpArgs false

/-- The numbers at even places from lo, at odd places from hi. -/
def joinF (start : Int) (lo hi : List Int) (n : Int) : Nat → Int → Int → Int → List Int → Option (List Int)
  | 0, _, _, _, _ => none
  | k + 1, i, a, b, x => if i < n then (if 0 ≤ i then (if Int.tmod (wrap64 (start + i)) 2 = 0 then (if 0 ≤ a ∧ a < (lo.length : Int) then joinF start lo hi n k (wrap64 (i + 1)) (wrap64 (a + 1)) b (x.set i.toNat (rd lo a)) else none) else (if 0 ≤ b ∧ b < (hi.length : Int) then joinF start lo hi n k (wrap64 (i + 1)) a (wrap64 (b + 1)) (x.set i.toNat (rd hi b)) else none)) else none) else some x
theorem joinF_length {start : Int} {lo hi : List Int} {n : Int} : ∀ {k : Nat} {i a b : Int} {x y : List Int}, joinF start lo hi n k i a b x = some y → y.length = x.length
  | 0, _, _, _, _, _, h => by simp [joinF] at h
  | k + 1, i, a, b, x, y, h => by
    rw [joinF.eq_2] at h
    split at h
    · split at h
      · split at h
        · split at h
          · have := joinF_length h
            rwa [List.length_set] at this
          · cases h
        · split at h
          · have := joinF_length h
            rwa [List.length_set] at this
          · cases h
      · cases h
    · rw [Option.some.inj h]
set_option maxHeartbeats 8000000 in
set_option maxRecDepth 100000 in
theorem extend_Join.good (k : Nat) (A : Option Addr) (c : Nat) (lo : List Int) (B : Option Addr) (d : Nat) (hi : List Int) (start : Int) (x : List Int) (w : World) (hr1 : Kd.C (Kd.int .i64) w A lo.length lo) (hr2 : Kd.C (Kd.int .i64) w B hi.length hi) (h0 : 0 ≤ start) (h1 : start ≤ 4096) (hl : lo.length + hi.length ≤ 4096) (hn : cntE start ((lo.length + hi.length : Nat) : Int) = (lo.length : Int)) (h : joinF start lo hi ((lo.length + hi.length : Nat) : Int) k 0 0 0 (List.replicate (lo.length + hi.length) 0) = some x) :
    Calls Try.prog 82 #[.slice A lo.length c, .slice B hi.length d, .int .i64 start] w fun e w' => ∃ v, e = .returned (.tuple #[v, .int .i64 0]) ∧ Kd.R (Kd.int .i64) 3 w' w.heap.size (fun _ => True) v x ∧ Below w.heap.size w w' := by
  have H := Aside0.mk h
  have HR1 := Aside0.mk hr1
  have HR2 := Aside0.mk hr2
  have b0 : decide (start < 0) = false := decide_eq_false (by omega)
  have b1 : decide (4096 < start) = false := decide_eq_false (by omega)
  have b2 : decide (4096 < (lo.length : Int)) = false := decide_eq_false (by omega)
  have b3 : decide (4096 < lo.length) = false := decide_eq_false (by omega)
  have e0 : wrap64 (4096 - (lo.length : Int)) = 4096 - (lo.length : Int) := by unfold wrap64; omega
  have b4 : decide (4096 - (lo.length : Int) < (hi.length : Int)) = false := decide_eq_false (by omega)
  have e1 : wrap64 ((lo.length : Int) + (hi.length : Int)) = ((lo.length + hi.length : Nat) : Int) := by unfold wrap64; omega
  have e2 : wrap64 (((lo.length + hi.length : Nat) : Int) - (lo.length : Int)) = (hi.length : Int) := by unfold wrap64; omega
  obtain ⟨n, hnn⟩ : ∃ n : Nat, n = lo.length + hi.length := ⟨_, rfl⟩
  rw [← hnn] at hn e1 e2 h
  have HQ := Aside0.mk (fun W : World => extend_Counts.good start (n : Int) h0 h1 (by omega) (by omega) W)
  have HN := Aside0.mk hnn
  have HC := Aside0.mk hn
  have HX := Aside0.mk h
  have HNL := Aside0.mk (show n ≤ 4096 by omega)
  have b5 : ((lo.length : Int) != (lo.length : Int)) = false := by simp
  have b6 : ((hi.length : Int) != (hi.length : Int)) = false := by simp
  clear h hr1 hr2 h0 h1 hl hnn hn H
  have BW := Aside0.mk (Below.refl w.heap.size w)
  go_enter Try.func82, Try.ntmps82
  go_wp2_with (first
    | (go_at_call 90; (with_reducible refine (HQ.out _).mono ?_); rintro _ w1 ⟨rfl, hq⟩; have hq' := hq.symm; clear hq; subst hq'; have hcn := HC.out; rw [hcn, e2]; clear hcn)
    | ((with_reducible refine gate_dst (N := 56) rfl ?_); refine Kd.R_make (Kd.int .i64) (w0 := w) w.heap.size 3 rfl (N := 56) rfl 24 (.tmp 55) (.tmp 55) rfl (n : Int) rfl rfl Try.underlying24 (.int .i64 0) 8 info3 rfl (by decide) (by omega) (0 : Int) (okp := fun _ => False) (ok := fun _ => True) rfl (fun _ h => h.elim) trivial (by omega) (by have := HNL.out; omega) BW.out (below_size BW.out) ?_; intro v w2 ho hb hg hat; rw [Int.toNat_natCast] at ho; have HL := Aside0.mk ho; have BW' := Aside0.mk hb; clear BW ho hb hg hat; have BW := BW'; clear BW'))
  clear b0 b1 b2 b3 b4 b5 b6 e0 e1 e2 HQ HC
  go_loopg [12, 13, 58] k (fun kq v12 v13 v58 w' => ∃ (i a b : Int) (y : List Int), v12 = .int .i64 a ∧ v13 = .int .i64 b ∧ v58 = .int .i64 i ∧ Aside0 (y.length = n) ∧ Aside0 (joinF start lo hi (n : Int) kq i a b y = some x) ∧ Aside0 (Kd.R (Kd.int .i64) 3 w' w.heap.size (fun _ => True) v y) ∧ Aside0 (Below w.heap.size w w'))
  case atStart => exact ⟨0, 0, 0, _, rfl, rfl, rfl, ⟨by simp⟩, HX, HL, BW⟩
  case round =>
  clear HX HL BW
  obtain ⟨i, a, b, y, rfl, rfl, rfl, HY, HX, HL, BW⟩ := hrel
  cases gk with
  | zero => exact absurd HX.out (by simp [joinF])
  | succ kk =>
  have hs := HX.out
  clear HX
  rw [joinF.eq_2] at hs
  by_cases hi1 : i < (n : Int)
  rotate_left
  · rw [if_neg hi1] at hs
    have hb0 : decide (i < (n : Int)) = false := decide_eq_false hi1
    obtain rfl := Option.some.inj hs
    clear hs hi1
    go_wp2
    go_ret2
    exact ⟨_, rfl, HL.out, BW.out⟩
  rw [if_pos hi1] at hs
  by_cases hi0 : 0 ≤ i
  rotate_left
  · rw [if_neg hi0] at hs
    cases hs
  rw [if_pos hi0] at hs
  have hb0 : decide (i < (n : Int)) = true := decide_eq_true hi1
  obtain ⟨g, cg, ev, -⟩ := Kd.R_form HL.out (by rw [HY.out]; omega)
  rw [HY.out] at ev
  subst ev
  have hin : i < (n : Int) := hi1
  have p0 : (0 ≤ i) = True := eq_true hi0
  have p1 : (i < (n : Int)) = True := eq_true hi1
  obtain ⟨hc9, hz⟩ := Kd.R_celln (0 : Int) HL.out i hi0 hin
  replace hc9 : wr.cell? ⟨g, i.toNat, none⟩ = some (.int .i64 (rd y i)) := hc9
  replace hz : wr.frozen? ⟨g, i.toNat, none⟩ = false := hz
  have hgw : w.heap.size ≤ g := Kd.R_base HL.out g rfl
  by_cases hp : Int.tmod (wrap64 (start + i)) 2 = 0
  · rw [if_pos hp] at hs
    by_cases ha : 0 ≤ a ∧ a < (lo.length : Int)
    rotate_left
    · rw [if_neg ha] at hs
      cases hs
    rw [if_pos ha] at hs
    have HX := Aside0.mk hs
    have hb1 : (Int.tmod (wrap64 (start + i)) 2 == 0) = true := beq_iff_eq.mpr hp
    obtain ⟨ad, e9, hx⟩ := Kd.at_int (Kd.C_below HR1.out BW.out) a ha.1 ha.2
    subst e9
    have q0 : (0 ≤ a) = True := eq_true ha.1
    have q1 : (a < (lo.length : Int)) = True := eq_true ha.2
    clear hs hp hi1 hi0 ha
    go_wp2
    go_roundg kk
    case measure => omega
    case rel => exact ⟨_, _, _, _, rfl, rfl, rfl, ⟨by rw [List.length_set]; exact HY.out⟩, HX, ⟨Kd.R_putn HL.out i _⟩, ⟨BW.out.setCell (p := ⟨g, i.toNat, none⟩) hgw _⟩⟩
  · rw [if_neg hp] at hs
    by_cases ha : 0 ≤ b ∧ b < (hi.length : Int)
    rotate_left
    · rw [if_neg ha] at hs
      cases hs
    rw [if_pos ha] at hs
    have HX := Aside0.mk hs
    have hb1 : (Int.tmod (wrap64 (start + i)) 2 == 0) = false := beq_eq_false_iff_ne.mpr hp
    obtain ⟨ad, e9, hx⟩ := Kd.at_int (Kd.C_below HR2.out BW.out) b ha.1 ha.2
    subst e9
    have q0 : (0 ≤ b) = True := eq_true ha.1
    have q1 : (b < (hi.length : Int)) = True := eq_true ha.2
    clear hs hp hi1 hi0 ha
    go_wp2
    go_roundg kk
    case measure => omega
    case rel => exact ⟨_, _, _, _, rfl, rfl, rfl, ⟨by rw [List.length_set]; exact HY.out⟩, HX, ⟨Kd.R_putn HL.out i _⟩, ⟨BW.out.setCell (p := ⟨g, i.toNat, none⟩) hgw _⟩⟩

/-- A line from its halves. -/
def invF (kk : Int) (k : Nat) (start : Int) (lo hi : List Int) : Option (List Int) :=
  (joinF start lo hi ((lo.length + hi.length : Nat) : Int) k 0 0 0 (List.replicate (lo.length + hi.length) 0)).bind fun x => if 1 < (x.length : Int) then (stepF (upF kk k) start 0 (-1) k 0 x).bind fun y => stepF (prF kk k) start 1 1 k 0 y else some x
set_option maxHeartbeats 8000000 in
set_option maxRecDepth 100000 in
theorem lift_Inverse.good (k kb : Nat) (kk : Int) (A : Option Addr) (c : Nat) (lo : List Int) (B : Option Addr) (d : Nat) (hi : List Int) (start : Int) (z : List Int) (w : World) (hr1 : Kd.C (Kd.int .i64) w A lo.length lo) (hc1 : lo.length ≤ c) (hr2 : Kd.C (Kd.int .i64) w B hi.length hi) (hc2 : hi.length ≤ d) (hk1 : 1 ≤ kk) (hk3 : kk ≤ 3) (h0 : 0 ≤ start) (h1 : start ≤ 4096) (hl : lo.length + hi.length ≤ 4096) (hn : cntE start ((lo.length + hi.length : Nat) : Int) = (lo.length : Int))
    (hb1 : lift_bounded.f kb lo 1125899906842624 = some true) (hb2 : lift_bounded.f kb hi 1125899906842624 = some true) (h : invF kk k start lo hi = some z) :
    Calls Try.prog 67 #[.slice A lo.length c, .slice B hi.length d, .int .i64 start, .int .i64 kk] w fun e w' => ∃ v, e = .returned (.tuple #[v, .int .i64 0]) ∧ Kd.R (Kd.int .i64) 3 w' w.heap.size (fun _ => True) v z ∧ Below w.heap.size w w' := by
  have HR1 := Aside0.mk hr1
  have HC1 := Aside0.mk hc1
  have HR2 := Aside0.mk hr2
  have HC2 := Aside0.mk hc2
  have HLN := Aside0.mk hl
  have HST := Aside0.mk (And.intro h0 h1)
  have HB1 := Aside0.mk hb1
  have HB2 := Aside0.mk hb2
  have HCN := Aside0.mk hn
  have HKN := Aside0.mk (show lift_known.f kk = some true by unfold lift_known.f; rw [if_pos (by omega), decide_eq_true hk3])
  have b0 : decide (start < 0) = false := decide_eq_false (by omega)
  have b1 : decide (4096 < start) = false := decide_eq_false (by omega)
  have b2 : decide (4096 < (lo.length : Int)) = false := decide_eq_false (by omega)
  have b3 : decide (4096 < lo.length) = false := decide_eq_false (by omega)
  have e0 : wrap64 (4096 - (lo.length : Int)) = 4096 - (lo.length : Int) := by unfold wrap64; omega
  have b4 : decide (4096 - (lo.length : Int) < (hi.length : Int)) = false := decide_eq_false (by omega)
  have BW := Aside0.mk (Below.refl w.heap.size w)
  unfold invF at h
  obtain ⟨x, hx, h⟩ := Option.bind_eq_some_iff.mp h
  have HX := Aside0.mk hx
  have hxl := joinF_length hx
  rw [List.length_replicate] at hxl
  clear hr1 hc1 hr2 hc2 hl h0 h1 hb1 hb2 hn hk1 hk3 hx
  go_enter Try.func67, Try.ntmps67
  by_cases hlen : 1 < (x.length : Int)
  rotate_left
  · rw [if_neg hlen] at h
    obtain rfl := Option.some.inj h
    have c4 : decide (1 < (x.length : Int)) = false := decide_eq_false hlen
    have c5 : decide (1 < x.length) = false := decide_eq_false (by omega)
    clear h hlen hxl
    go_wp2_with (first
    | (go_at_call 75; (with_reducible refine (lift_known.calls _ true _ HKN.out).mono ?_); rintro _ w1 ⟨rfl, hq⟩; have BW' := Aside0.mk (BW.out.trans (hq.below.mono BW.out.size)); clear BW hq; have BW := BW'; clear BW')
    | (go_at_call 76; (with_reducible refine (lift_bounded.calls kb A c lo 1125899906842624 true _ (Kd.C_below HR1.out BW.out) HC1.out HB1.out).mono ?_); rintro _ w2 ⟨rfl, hq⟩; have BW' := Aside0.mk (BW.out.trans (hq.below.mono BW.out.size)); clear BW hq; have BW := BW'; clear BW')
    | (go_at_call 76; (with_reducible refine (lift_bounded.calls kb B d hi 1125899906842624 true _ (Kd.C_below HR2.out BW.out) HC2.out HB2.out).mono ?_); rintro _ w2 ⟨rfl, hq⟩; have BW' := Aside0.mk (BW.out.trans (hq.below.mono BW.out.size)); clear BW hq; have BW := BW'; clear BW')
    | (go_at_call 82; (with_reducible refine (extend_Join.good k A c lo B d hi start x _ (Kd.C_below HR1.out BW.out) (Kd.C_below HR2.out BW.out) HST.out.1 HST.out.2 HLN.out HCN.out HX.out).mono ?_); rintro _ w4 ⟨v0, rfl, ho, b⟩; obtain ⟨Al, cl, rfl⟩ := Kd.R_slice ho; have HL := Aside0.mk (Kd.R_lower ho (below_size BW.out)); have BW' := Aside0.mk (BW.out.trans (b.mono BW.out.size)); clear BW ho b; have BW := BW'; clear BW'))
    go_ret2
    exact ⟨_, rfl, HL.out, BW.out⟩
  rw [if_pos hlen] at h
  have c4 : decide (1 < (x.length : Int)) = true := decide_eq_true hlen
  have c5 : decide (1 < x.length) = true := decide_eq_true (by omega)
  obtain ⟨y, hy, h⟩ := Option.bind_eq_some_iff.mp h
  have HY := Aside0.mk hy
  have HZ := Aside0.mk h
  have HP := Aside0.mk (show 0 < x.length by omega)
  clear h hy hlen hxl
  go_upto_region 12 with (first
    | (go_at_call 75; (with_reducible refine (lift_known.calls _ true _ HKN.out).mono ?_); rintro _ w1 ⟨rfl, hq⟩; have BW' := Aside0.mk (BW.out.trans (hq.below.mono BW.out.size)); clear BW hq; have BW := BW'; clear BW')
    | (go_at_call 76; (with_reducible refine (lift_bounded.calls kb A c lo 1125899906842624 true _ (Kd.C_below HR1.out BW.out) HC1.out HB1.out).mono ?_); rintro _ w2 ⟨rfl, hq⟩; have BW' := Aside0.mk (BW.out.trans (hq.below.mono BW.out.size)); clear BW hq; have BW := BW'; clear BW')
    | (go_at_call 76; (with_reducible refine (lift_bounded.calls kb B d hi 1125899906842624 true _ (Kd.C_below HR2.out BW.out) HC2.out HB2.out).mono ?_); rintro _ w2 ⟨rfl, hq⟩; have BW' := Aside0.mk (BW.out.trans (hq.below.mono BW.out.size)); clear BW hq; have BW := BW'; clear BW')
    | (go_at_call 82; (with_reducible refine (extend_Join.good k A c lo B d hi start x _ (Kd.C_below HR1.out BW.out) (Kd.C_below HR2.out BW.out) HST.out.1 HST.out.2 HLN.out HCN.out HX.out).mono ?_); rintro _ w4 ⟨v0, rfl, ho, b⟩; obtain ⟨a, c2, rfl, -⟩ := Kd.R_form ho HP.out; have HL := Aside0.mk (Kd.R_lower ho (below_size BW.out)); have BW' := Aside0.mk (BW.out.trans (b.mono BW.out.size)); clear BW ho b; have BW := BW'; clear BW')
    | ((with_reducible refine gate_dst (N := 12) rfl ?_); refine box_event ?hg (N := 12) ?hd (cs := #[.slice none 0 0, .int .i64 0]) (t := 97) ?hr ?_; (case hd => rfl); (case hg => rfl); (case hr => first | (go_simp; done) | (go_simp; rfl)); intro g12 hg W12 hbox hb; have K := Aside0.mk (bks_one hg hbox (BW.out.trans (hb.mono BW.out.size)) (by rw [hg]; exact below_size BW.out)); have HL' := Aside0.mk (Kd.R_below HL.out hb); clear HL hg hbox hb BW; have HL := HL'; clear HL')
    | ((with_reducible refine gate_store (t := 97) (p := 12) (v := .tmp 58) rfl ?_); refine store_ev rfl rfl 97 (.tmp 12) (.tmp 58) rfl rfl rfl (K.out.get 0 rfl) rfl rfl (by first | (kernel_rfl) | (simp [Value.oneCell'])) ?_; intro W9s hs; have HL' := Aside0.mk (row_stored HL.out (K.out.get 0 rfl) (by decide) hs); have K' := Aside0.mk (K.out.stored 0 rfl hs); clear HL K hs; have HL := HL'; have K := K'; clear HL' K'))
  clear b0 b1 b2 b3 b4 e0 HB1 HB2 HKN HC1 HC2
  have K' := Aside0.mk K.out.drew
  have HL' := Aside0.mk (Kd.R_drew HL.out)
  clear HL K
  have HL := HL'
  have K := K'
  clear HL' K'
  refine start_ (n := 5) (S := fun w' => w'.heap[g12]? = some (.cells #[.slice (some ⟨a, 0, none⟩) x.length c2, .int .i64 start] 97 (0, 0))) (ds := []) #[false, false, false, false, false] (by kernel_rfl) rfl rfl (K.out.get 0 rfl) (fun hHeld0 => ?_)
  generalize hwp : W9s.drew = wpa at *
  clear hwp
  have hHeld := Aside0.mk hHeld0
  clear hHeld0
  refine take_ (i := 0) (N := some 59) (v := .agg #[.slice (some ⟨a, 0, none⟩) x.length c2, .int .i64 start]) (a' := ?_) #[true, false, false, false, false] rfl rfl (by kernel_rfl) (fun _ _ _ h => h) (load_yields (by rfl) 97 (.tmp 12) rfl rfl (fun _ h => h) Try.underlying97 rfl) hHeld.out ?_ ?_
  rotate_left
  · simp only [Act.put, List.setIfInBounds_toArray, List.set_cons_zero, List.set_cons_succ, i64_w, i32_w]
    rfl
  refine take_ (i := 1) (N := some 60) (v := .agg #[.slice (some ⟨a, 0, none⟩) x.length c2, .int .i64 start]) (a' := ?_) #[true, true, false, false, false] rfl rfl (by kernel_rfl) (fun _ _ _ h => h) (load_yields (by rfl) 97 (.tmp 12) rfl rfl (fun _ h => h) Try.underlying97 rfl) hHeld.out ?_ ?_
  rotate_left
  · simp only [Act.put, List.setIfInBounds_toArray, List.set_cons_zero, List.set_cons_succ, i64_w, i32_w]
    rfl
  refine pure_ (i := 2) (N := some 61) (v := ?_) (a' := ?_) #[true, true, true, false, false] rfl rfl (by kernel_rfl) (fun _ _ _ h => h) (Or.inl ⟨by rfl, ?_⟩) ?_ ?_
  rotate_left
  · intro w'
    go_simp
    with_reducible rfl
  rotate_left
  · simp only [Act.put, List.setIfInBounds_toArray, List.set_cons_zero, List.set_cons_succ, i64_w, i32_w]
    rfl
  refine one_ (i := 3) (N := some 62) #[true, true, true, true, false] rfl rfl (by kernel_rfl) (by decide) (fun KC hK => ?_)
  refine goes_ Try.func79 (by kernel_rfl) rfl #[.agg #[.slice (some ⟨a, 0, none⟩) x.length c2, .int .i64 start], .int .i64 kk] (by rfl) rfl rfl (by simp only [List.map_toArray, List.map_cons, List.map_nil]; rfl) ?_
  refine (update.calls kk (some ⟨a, 0, none⟩) x.length c2 start _).mono ?_
  rintro _ wpb ⟨g, rfl, hgb, hge, b⟩
  refine ⟨_, rfl, ?_⟩
  have HGB := Aside0.mk hgb
  have HL' := Aside0.mk (Kd.R_below HL.out b)
  have K' := Aside0.mk (K.out.call (below_size K.out.below) b)
  clear HL K b hgb hge
  have HL := HL'
  have K := K'
  clear HL' K'
  refine hK.out _ _ (K.out.get 0 rfl) (fun hHeld => ?_)
  clear hK KC
  refine norm_ (a' := ?_) ?_ ?_
  rotate_left
  · show Act.put _ (some 62) _ = _
    simp only [Act.put, List.setIfInBounds_toArray, List.set_cons_zero, List.set_cons_succ, i64_w, i32_w]
    rfl
  refine one_ (i := 4) (N := some 63) #[true, true, true, true, true] rfl rfl (by kernel_rfl) (by decide) (fun KC hK => ?_)
  obtain ⟨fn, hf1, hf2, hf3⟩ := updN_func kk
  refine goes_ Try.func77 (by kernel_rfl) rfl #[.agg #[.slice (some ⟨a, 0, none⟩) x.length c2, .int .i64 start], .int .i64 0, .int .i64 (-1), .func (.func (updN kk)) #[] #[.pointer (some ⟨g, 0, none⟩)]] (by rfl) rfl rfl (by simp only [List.map_toArray, List.map_cons, List.map_nil]; rfl) ?_
  refine (line_step.calls (updN kk) fn hf1 hf2 hf3 (upF kk k) (up_fn kk k) k g a c2 x.length x y start 0 (-1) w w.heap.size (fun _ => True) _ HL.out HGB.out K.out.below HY.out).mono ?_
  rintro _ wpc ⟨rfl, hR, hk, hB⟩
  refine ⟨_, rfl, ?_⟩
  have hne : g12 ≠ a := fun e => Kd.R_ne HL.out (K.out.get 0 rfl) (by decide) (by rw [e]; rfl)
  have K' := Aside0.mk (K.out.kept1 hk hne hB)
  have HL' := Aside0.mk hR
  clear HL K hk hne hB hR HGB hf1 hf2 hf3
  have HL := HL'
  have K := K'
  clear HL' K'
  refine hK.out _ _ (K.out.get 0 rfl) (fun hHeld => ?_)
  clear hK KC
  refine norm_ (a' := ?_) ?_ ?_
  rotate_left
  · show Act.put _ (some 63) _ = _
    simp only [Act.put, List.setIfInBounds_toArray, List.set_cons_zero, List.set_cons_succ, i64_w, i32_w]
    rfl
  refine done_ (by kernel_rfl) ?_
  clear hHeld
  go_wp2
  have K' := Aside0.mk K.out.drew
  have HL' := Aside0.mk (Kd.R_drew HL.out)
  clear HL K
  have HL := HL'
  have K := K'
  clear HL' K'
  refine start_ (n := 5) (S := fun w' => w'.heap[g12]? = some (.cells #[.slice (some ⟨a, 0, none⟩) x.length c2, .int .i64 start] 97 (0, 0))) (ds := []) #[false, false, false, false, false] (by kernel_rfl) rfl rfl (K.out.get 0 rfl) (fun hHeld0 => ?_)
  generalize hwq : wpc.drew = wqa at *
  clear hwq
  have hHeld := Aside0.mk hHeld0
  clear hHeld0
  refine take_ (i := 0) (N := some 64) (v := .agg #[.slice (some ⟨a, 0, none⟩) x.length c2, .int .i64 start]) (a' := ?_) #[true, false, false, false, false] rfl rfl (by kernel_rfl) (fun _ _ _ h => h) (load_yields (by rfl) 97 (.tmp 12) rfl rfl (fun _ h => h) Try.underlying97 rfl) hHeld.out ?_ ?_
  rotate_left
  · simp only [Act.put, List.setIfInBounds_toArray, List.set_cons_zero, List.set_cons_succ, i64_w, i32_w]
    rfl
  refine take_ (i := 1) (N := some 65) (v := .agg #[.slice (some ⟨a, 0, none⟩) x.length c2, .int .i64 start]) (a' := ?_) #[true, true, false, false, false] rfl rfl (by kernel_rfl) (fun _ _ _ h => h) (load_yields (by rfl) 97 (.tmp 12) rfl rfl (fun _ h => h) Try.underlying97 rfl) hHeld.out ?_ ?_
  rotate_left
  · simp only [Act.put, List.setIfInBounds_toArray, List.set_cons_zero, List.set_cons_succ, i64_w, i32_w]
    rfl
  refine pure_ (i := 2) (N := some 66) (v := ?_) (a' := ?_) #[true, true, true, false, false] rfl rfl (by kernel_rfl) (fun _ _ _ h => h) (Or.inl ⟨by rfl, ?_⟩) ?_ ?_
  rotate_left
  · intro w'
    go_simp
    with_reducible rfl
  rotate_left
  · simp only [Act.put, List.setIfInBounds_toArray, List.set_cons_zero, List.set_cons_succ, i64_w, i32_w]
    rfl
  refine one_ (i := 3) (N := some 67) #[true, true, true, true, false] rfl rfl (by kernel_rfl) (by decide) (fun KC hK => ?_)
  refine goes_ Try.func78 (by kernel_rfl) rfl #[.agg #[.slice (some ⟨a, 0, none⟩) x.length c2, .int .i64 start], .int .i64 kk] (by rfl) rfl rfl (by simp only [List.map_toArray, List.map_cons, List.map_nil]; rfl) ?_
  refine (predict.calls kk (some ⟨a, 0, none⟩) x.length c2 start _).mono ?_
  rintro _ wqb ⟨g, rfl, hgb, hge, b⟩
  refine ⟨_, rfl, ?_⟩
  have HGB := Aside0.mk hgb
  have HL' := Aside0.mk (Kd.R_below HL.out b)
  have K' := Aside0.mk (K.out.call (below_size K.out.below) b)
  clear HL K b hgb hge
  have HL := HL'
  have K := K'
  clear HL' K'
  refine hK.out _ _ (K.out.get 0 rfl) (fun hHeld => ?_)
  clear hK KC
  refine norm_ (a' := ?_) ?_ ?_
  rotate_left
  · show Act.put _ (some 67) _ = _
    simp only [Act.put, List.setIfInBounds_toArray, List.set_cons_zero, List.set_cons_succ, i64_w, i32_w]
    rfl
  refine one_ (i := 4) (N := some 68) #[true, true, true, true, true] rfl rfl (by kernel_rfl) (by decide) (fun KC hK => ?_)
  obtain ⟨fn, hf1, hf2, hf3⟩ := predN_func kk
  refine goes_ Try.func77 (by kernel_rfl) rfl #[.agg #[.slice (some ⟨a, 0, none⟩) x.length c2, .int .i64 start], .int .i64 1, .int .i64 (1), .func (.func (predN kk)) #[] #[.pointer (some ⟨g, 0, none⟩)]] (by rfl) rfl rfl (by simp only [List.map_toArray, List.map_cons, List.map_nil]; rfl) ?_
  refine (line_step.calls (predN kk) fn hf1 hf2 hf3 (prF kk k) (pr_fn kk k) k g a c2 x.length y z start 1 (1) w w.heap.size (fun _ => True) _ HL.out HGB.out K.out.below HZ.out).mono ?_
  rintro _ wqc ⟨rfl, hR, hk, hB⟩
  refine ⟨_, rfl, ?_⟩
  have hne : g12 ≠ a := fun e => Kd.R_ne HL.out (K.out.get 0 rfl) (by decide) (by rw [e]; rfl)
  have K' := Aside0.mk (K.out.kept1 hk hne hB)
  have HL' := Aside0.mk hR
  clear HL K hk hne hB hR HGB hf1 hf2 hf3
  have HL := HL'
  have K := K'
  clear HL' K'
  refine hK.out _ _ (K.out.get 0 rfl) (fun hHeld => ?_)
  clear hK KC
  refine norm_ (a' := ?_) ?_ ?_
  rotate_left
  · show Act.put _ (some 68) _ = _
    simp only [Act.put, List.setIfInBounds_toArray, List.set_cons_zero, List.set_cons_succ, i64_w, i32_w]
    rfl
  refine done_ (by kernel_rfl) ?_
  clear hHeld
  go_wp2
  go_ret2
  exact ⟨_, rfl, HL.out, K.out.below⟩
end Go.Proofs.Ytcnpekpgghppnaa.Q

namespace Go.Proofs.Ytcnpekpgghppnaa.Q
open Go.RowKit Go.Proofs.YtcnpekpgghppnaaW.PrintWords Go.Proofs.YtcnpekpgghppnaaW.PrintLast Go.Proofs.YtcnpekpgghppnaaW.PrintMore
attribute [local go_sem] max2_int min2_int max_two min_two max_three min_three max_four min_four   -- for this text's walks alone
set_option linter.unusedVariables false
set_option linter.unusedSimpArgs false

/-! ### rect_Valid: function 31 -/
def rect_Valid.f (a0_0 : Int) (a0_1 : Int) (a0_2 : Int) (a0_3 : Int) : Option (Bool) := if 0 ≤ a0_0 then (if a0_0 ≤ a0_2 then (if a0_2 ≤ 4096 then (if 0 ≤ a0_1 then (if a0_1 ≤ a0_3 then (some (decide (a0_3 ≤ 4096))) else (some false)) else (some false)) else (some false)) else (some false)) else (some false)
set_option maxHeartbeats 8000000 in
set_option maxRecDepth 100000 in
theorem rect_Valid.calls (a0_0 : Int) (a0_1 : Int) (a0_2 : Int) (a0_3 : Int) (r : Bool) (w : World) (h : rect_Valid.f a0_0 a0_1 a0_2 a0_3 = some r) :
    Calls Try.prog 31 #[.agg #[.int .i64 a0_0, .int .i64 a0_1, .int .i64 a0_2, .int .i64 a0_3]] w fun e w' => e = .returned (.bool r) ∧ Below w.heap.size w w' := by
  have hu23 := Try.underlying23
  have HB := Aside0.mk (Below.refl w.heap.size w)
  have H : (if 0 ≤ a0_0 then (if a0_0 ≤ a0_2 then (if a0_2 ≤ 4096 then (if 0 ≤ a0_1 then (if a0_1 ≤ a0_3 then (some (decide (a0_3 ≤ 4096))) else (some false)) else (some false)) else (some false)) else (some false)) else (some false)) = some r := h
  clear h
  by_cases c2 : 0 ≤ a0_0
  · rw [if_pos c2] at H
    have c2b0 : decide (0 ≤ a0_0) = true := decide_eq_true c2
    clear c2
    by_cases c3 : a0_0 ≤ a0_2
    · rw [if_pos c3] at H
      have c3b0 : decide (a0_0 ≤ a0_2) = true := decide_eq_true c3
      clear c3
      by_cases c4 : a0_2 ≤ 4096
      · rw [if_pos c4] at H
        have c4b0 : decide (a0_2 ≤ 4096) = true := decide_eq_true c4
        clear c4
        by_cases c5 : 0 ≤ a0_1
        · rw [if_pos c5] at H
          have c5b0 : decide (0 ≤ a0_1) = true := decide_eq_true c5
          clear c5
          by_cases c6 : a0_1 ≤ a0_3
          · rw [if_pos c6] at H
            have c6b0 : decide (a0_1 ≤ a0_3) = true := decide_eq_true c6
            clear c6
            obtain rfl := Option.some.inj H
            go_enter Try.func31, Try.ntmps31
            go_wp2_with (first | ((with_reducible refine gate_dst (N := 1) rfl ?_); refine box_event ?hg (N := 1) ?hd (cs := #[.int .i64 a0_0, .int .i64 a0_1, .int .i64 a0_2, .int .i64 a0_3]) (t := 23) ?hr ?_; (case hd => rfl); (case hg => rfl); (case hr => first | (go_simp; done) | (go_simp; rfl)); intro gb110 hg w7 hbox hb; have n0_ := Aside0.mk (below_step (by repeat (first | (with_reducible first | exact HB.out | apply below_alloc | apply pw_below_drewN | apply below_drew1) | exact HB.out)) hb); have n1_ := Aside0.mk (hbox); have n2_ := Aside0.mk ((by rw [hg]; exact (below_size (by repeat (first | (with_reducible first | exact HB.out | apply below_alloc | apply pw_below_drewN | apply below_drew1) | exact HB.out))) : w.heap.size ≤ gb110)); have n3_ := Aside0.mk ((by rw [hg]; exact (below_size (by repeat (first | (with_reducible first | exact HB.out | apply below_alloc | apply pw_below_drewN | apply below_drew1) | exact HB.out))) : w.heap.size ≤ gb110)); clear HB; have HB := n0_; have BK110 := n1_; have GW110 := n2_; have GE110 := n3_; clear n0_ n1_ n2_ n3_; clear hb hbox hg; have hcz8_0 : w7.cell? ⟨gb110, 0, none⟩ = some (.int .i64 a0_0) := (blk_cell BK110.out 0).trans rfl; have hcz8_1 : w7.cell? ⟨gb110, 1, none⟩ = some (.int .i64 a0_1) := (blk_cell BK110.out 1).trans rfl; have hcz8_2 : w7.cell? ⟨gb110, 2, none⟩ = some (.int .i64 a0_2) := (blk_cell BK110.out 2).trans rfl; have hcz8_3 : w7.cell? ⟨gb110, 3, none⟩ = some (.int .i64 a0_3) := (blk_cell BK110.out 3).trans rfl; have hfz8_0 := blk_frozen BK110.out 0; have hfz8_1 := blk_frozen BK110.out 1; have hfz8_2 := blk_frozen BK110.out 2; have hfz8_3 := blk_frozen BK110.out 3))
            go_ret
            exact ⟨by first | rfl | (simp [errW_none, errW_some] <;> rfl) | (simp [*, errW_none, errW_some] <;> rfl), by repeat (first | (with_reducible first | exact HB.out | apply below_alloc | apply pw_below_drewN | apply below_drew1 | refine below_set ?_ GE110.out) | exact HB.out)⟩
          · rw [if_neg c6] at H
            have c6b0 : decide (a0_1 ≤ a0_3) = false := decide_eq_false c6
            clear c6
            obtain rfl := Option.some.inj H
            go_enter Try.func31, Try.ntmps31
            go_wp2_with (first | ((with_reducible refine gate_dst (N := 1) rfl ?_); refine box_event ?hg (N := 1) ?hd (cs := #[.int .i64 a0_0, .int .i64 a0_1, .int .i64 a0_2, .int .i64 a0_3]) (t := 23) ?hr ?_; (case hd => rfl); (case hg => rfl); (case hr => first | (go_simp; done) | (go_simp; rfl)); intro gb110 hg w9 hbox hb; have n0_ := Aside0.mk (below_step (by repeat (first | (with_reducible first | exact HB.out | apply below_alloc | apply pw_below_drewN | apply below_drew1) | exact HB.out)) hb); have n1_ := Aside0.mk (hbox); have n2_ := Aside0.mk ((by rw [hg]; exact (below_size (by repeat (first | (with_reducible first | exact HB.out | apply below_alloc | apply pw_below_drewN | apply below_drew1) | exact HB.out))) : w.heap.size ≤ gb110)); have n3_ := Aside0.mk ((by rw [hg]; exact (below_size (by repeat (first | (with_reducible first | exact HB.out | apply below_alloc | apply pw_below_drewN | apply below_drew1) | exact HB.out))) : w.heap.size ≤ gb110)); clear HB; have HB := n0_; have BK110 := n1_; have GW110 := n2_; have GE110 := n3_; clear n0_ n1_ n2_ n3_; clear hb hbox hg; have hcz10_0 : w9.cell? ⟨gb110, 0, none⟩ = some (.int .i64 a0_0) := (blk_cell BK110.out 0).trans rfl; have hcz10_1 : w9.cell? ⟨gb110, 1, none⟩ = some (.int .i64 a0_1) := (blk_cell BK110.out 1).trans rfl; have hcz10_2 : w9.cell? ⟨gb110, 2, none⟩ = some (.int .i64 a0_2) := (blk_cell BK110.out 2).trans rfl; have hcz10_3 : w9.cell? ⟨gb110, 3, none⟩ = some (.int .i64 a0_3) := (blk_cell BK110.out 3).trans rfl; have hfz10_0 := blk_frozen BK110.out 0; have hfz10_1 := blk_frozen BK110.out 1; have hfz10_2 := blk_frozen BK110.out 2; have hfz10_3 := blk_frozen BK110.out 3))
            go_ret
            exact ⟨by first | rfl | (simp [errW_none, errW_some] <;> rfl) | (simp [*, errW_none, errW_some] <;> rfl), by repeat (first | (with_reducible first | exact HB.out | apply below_alloc | apply pw_below_drewN | apply below_drew1 | refine below_set ?_ GE110.out) | exact HB.out)⟩
        · rw [if_neg c5] at H
          have c5b0 : decide (0 ≤ a0_1) = false := decide_eq_false c5
          clear c5
          obtain rfl := Option.some.inj H
          go_enter Try.func31, Try.ntmps31
          go_wp2_with (first | ((with_reducible refine gate_dst (N := 1) rfl ?_); refine box_event ?hg (N := 1) ?hd (cs := #[.int .i64 a0_0, .int .i64 a0_1, .int .i64 a0_2, .int .i64 a0_3]) (t := 23) ?hr ?_; (case hd => rfl); (case hg => rfl); (case hr => first | (go_simp; done) | (go_simp; rfl)); intro gb110 hg w11 hbox hb; have n0_ := Aside0.mk (below_step (by repeat (first | (with_reducible first | exact HB.out | apply below_alloc | apply pw_below_drewN | apply below_drew1) | exact HB.out)) hb); have n1_ := Aside0.mk (hbox); have n2_ := Aside0.mk ((by rw [hg]; exact (below_size (by repeat (first | (with_reducible first | exact HB.out | apply below_alloc | apply pw_below_drewN | apply below_drew1) | exact HB.out))) : w.heap.size ≤ gb110)); have n3_ := Aside0.mk ((by rw [hg]; exact (below_size (by repeat (first | (with_reducible first | exact HB.out | apply below_alloc | apply pw_below_drewN | apply below_drew1) | exact HB.out))) : w.heap.size ≤ gb110)); clear HB; have HB := n0_; have BK110 := n1_; have GW110 := n2_; have GE110 := n3_; clear n0_ n1_ n2_ n3_; clear hb hbox hg; have hcz12_0 : w11.cell? ⟨gb110, 0, none⟩ = some (.int .i64 a0_0) := (blk_cell BK110.out 0).trans rfl; have hcz12_1 : w11.cell? ⟨gb110, 1, none⟩ = some (.int .i64 a0_1) := (blk_cell BK110.out 1).trans rfl; have hcz12_2 : w11.cell? ⟨gb110, 2, none⟩ = some (.int .i64 a0_2) := (blk_cell BK110.out 2).trans rfl; have hcz12_3 : w11.cell? ⟨gb110, 3, none⟩ = some (.int .i64 a0_3) := (blk_cell BK110.out 3).trans rfl; have hfz12_0 := blk_frozen BK110.out 0; have hfz12_1 := blk_frozen BK110.out 1; have hfz12_2 := blk_frozen BK110.out 2; have hfz12_3 := blk_frozen BK110.out 3))
          go_ret
          exact ⟨by first | rfl | (simp [errW_none, errW_some] <;> rfl) | (simp [*, errW_none, errW_some] <;> rfl), by repeat (first | (with_reducible first | exact HB.out | apply below_alloc | apply pw_below_drewN | apply below_drew1 | refine below_set ?_ GE110.out) | exact HB.out)⟩
      · rw [if_neg c4] at H
        have c4b0 : decide (a0_2 ≤ 4096) = false := decide_eq_false c4
        clear c4
        obtain rfl := Option.some.inj H
        go_enter Try.func31, Try.ntmps31
        go_wp2_with (first | ((with_reducible refine gate_dst (N := 1) rfl ?_); refine box_event ?hg (N := 1) ?hd (cs := #[.int .i64 a0_0, .int .i64 a0_1, .int .i64 a0_2, .int .i64 a0_3]) (t := 23) ?hr ?_; (case hd => rfl); (case hg => rfl); (case hr => first | (go_simp; done) | (go_simp; rfl)); intro gb110 hg w13 hbox hb; have n0_ := Aside0.mk (below_step (by repeat (first | (with_reducible first | exact HB.out | apply below_alloc | apply pw_below_drewN | apply below_drew1) | exact HB.out)) hb); have n1_ := Aside0.mk (hbox); have n2_ := Aside0.mk ((by rw [hg]; exact (below_size (by repeat (first | (with_reducible first | exact HB.out | apply below_alloc | apply pw_below_drewN | apply below_drew1) | exact HB.out))) : w.heap.size ≤ gb110)); have n3_ := Aside0.mk ((by rw [hg]; exact (below_size (by repeat (first | (with_reducible first | exact HB.out | apply below_alloc | apply pw_below_drewN | apply below_drew1) | exact HB.out))) : w.heap.size ≤ gb110)); clear HB; have HB := n0_; have BK110 := n1_; have GW110 := n2_; have GE110 := n3_; clear n0_ n1_ n2_ n3_; clear hb hbox hg; have hcz14_0 : w13.cell? ⟨gb110, 0, none⟩ = some (.int .i64 a0_0) := (blk_cell BK110.out 0).trans rfl; have hcz14_1 : w13.cell? ⟨gb110, 1, none⟩ = some (.int .i64 a0_1) := (blk_cell BK110.out 1).trans rfl; have hcz14_2 : w13.cell? ⟨gb110, 2, none⟩ = some (.int .i64 a0_2) := (blk_cell BK110.out 2).trans rfl; have hcz14_3 : w13.cell? ⟨gb110, 3, none⟩ = some (.int .i64 a0_3) := (blk_cell BK110.out 3).trans rfl; have hfz14_0 := blk_frozen BK110.out 0; have hfz14_1 := blk_frozen BK110.out 1; have hfz14_2 := blk_frozen BK110.out 2; have hfz14_3 := blk_frozen BK110.out 3))
        go_ret
        exact ⟨by first | rfl | (simp [errW_none, errW_some] <;> rfl) | (simp [*, errW_none, errW_some] <;> rfl), by repeat (first | (with_reducible first | exact HB.out | apply below_alloc | apply pw_below_drewN | apply below_drew1 | refine below_set ?_ GE110.out) | exact HB.out)⟩
    · rw [if_neg c3] at H
      have c3b0 : decide (a0_0 ≤ a0_2) = false := decide_eq_false c3
      clear c3
      obtain rfl := Option.some.inj H
      go_enter Try.func31, Try.ntmps31
      go_wp2_with (first | ((with_reducible refine gate_dst (N := 1) rfl ?_); refine box_event ?hg (N := 1) ?hd (cs := #[.int .i64 a0_0, .int .i64 a0_1, .int .i64 a0_2, .int .i64 a0_3]) (t := 23) ?hr ?_; (case hd => rfl); (case hg => rfl); (case hr => first | (go_simp; done) | (go_simp; rfl)); intro gb110 hg w15 hbox hb; have n0_ := Aside0.mk (below_step (by repeat (first | (with_reducible first | exact HB.out | apply below_alloc | apply pw_below_drewN | apply below_drew1) | exact HB.out)) hb); have n1_ := Aside0.mk (hbox); have n2_ := Aside0.mk ((by rw [hg]; exact (below_size (by repeat (first | (with_reducible first | exact HB.out | apply below_alloc | apply pw_below_drewN | apply below_drew1) | exact HB.out))) : w.heap.size ≤ gb110)); have n3_ := Aside0.mk ((by rw [hg]; exact (below_size (by repeat (first | (with_reducible first | exact HB.out | apply below_alloc | apply pw_below_drewN | apply below_drew1) | exact HB.out))) : w.heap.size ≤ gb110)); clear HB; have HB := n0_; have BK110 := n1_; have GW110 := n2_; have GE110 := n3_; clear n0_ n1_ n2_ n3_; clear hb hbox hg; have hcz16_0 : w15.cell? ⟨gb110, 0, none⟩ = some (.int .i64 a0_0) := (blk_cell BK110.out 0).trans rfl; have hcz16_1 : w15.cell? ⟨gb110, 1, none⟩ = some (.int .i64 a0_1) := (blk_cell BK110.out 1).trans rfl; have hcz16_2 : w15.cell? ⟨gb110, 2, none⟩ = some (.int .i64 a0_2) := (blk_cell BK110.out 2).trans rfl; have hcz16_3 : w15.cell? ⟨gb110, 3, none⟩ = some (.int .i64 a0_3) := (blk_cell BK110.out 3).trans rfl; have hfz16_0 := blk_frozen BK110.out 0; have hfz16_1 := blk_frozen BK110.out 1; have hfz16_2 := blk_frozen BK110.out 2; have hfz16_3 := blk_frozen BK110.out 3))
      go_ret
      exact ⟨by first | rfl | (simp [errW_none, errW_some] <;> rfl) | (simp [*, errW_none, errW_some] <;> rfl), by repeat (first | (with_reducible first | exact HB.out | apply below_alloc | apply pw_below_drewN | apply below_drew1 | refine below_set ?_ GE110.out) | exact HB.out)⟩
  · rw [if_neg c2] at H
    have c2b0 : decide (0 ≤ a0_0) = false := decide_eq_false c2
    clear c2
    obtain rfl := Option.some.inj H
    go_enter Try.func31, Try.ntmps31
    go_wp2_with (first | ((with_reducible refine gate_dst (N := 1) rfl ?_); refine box_event ?hg (N := 1) ?hd (cs := #[.int .i64 a0_0, .int .i64 a0_1, .int .i64 a0_2, .int .i64 a0_3]) (t := 23) ?hr ?_; (case hd => rfl); (case hg => rfl); (case hr => first | (go_simp; done) | (go_simp; rfl)); intro gb110 hg w17 hbox hb; have n0_ := Aside0.mk (below_step (by repeat (first | (with_reducible first | exact HB.out | apply below_alloc | apply pw_below_drewN | apply below_drew1) | exact HB.out)) hb); have n1_ := Aside0.mk (hbox); have n2_ := Aside0.mk ((by rw [hg]; exact (below_size (by repeat (first | (with_reducible first | exact HB.out | apply below_alloc | apply pw_below_drewN | apply below_drew1) | exact HB.out))) : w.heap.size ≤ gb110)); have n3_ := Aside0.mk ((by rw [hg]; exact (below_size (by repeat (first | (with_reducible first | exact HB.out | apply below_alloc | apply pw_below_drewN | apply below_drew1) | exact HB.out))) : w.heap.size ≤ gb110)); clear HB; have HB := n0_; have BK110 := n1_; have GW110 := n2_; have GE110 := n3_; clear n0_ n1_ n2_ n3_; clear hb hbox hg; have hcz18_0 : w17.cell? ⟨gb110, 0, none⟩ = some (.int .i64 a0_0) := (blk_cell BK110.out 0).trans rfl; have hcz18_1 : w17.cell? ⟨gb110, 1, none⟩ = some (.int .i64 a0_1) := (blk_cell BK110.out 1).trans rfl; have hcz18_2 : w17.cell? ⟨gb110, 2, none⟩ = some (.int .i64 a0_2) := (blk_cell BK110.out 2).trans rfl; have hcz18_3 : w17.cell? ⟨gb110, 3, none⟩ = some (.int .i64 a0_3) := (blk_cell BK110.out 3).trans rfl; have hfz18_0 := blk_frozen BK110.out 0; have hfz18_1 := blk_frozen BK110.out 1; have hfz18_2 := blk_frozen BK110.out 2; have hfz18_3 := blk_frozen BK110.out 3))
    go_ret
    exact ⟨by first | rfl | (simp [errW_none, errW_some] <;> rfl) | (simp [*, errW_none, errW_some] <;> rfl), by repeat (first | (with_reducible first | exact HB.out | apply below_alloc | apply pw_below_drewN | apply below_drew1 | refine below_set ?_ GE110.out) | exact HB.out)⟩

end Go.Proofs.Ytcnpekpgghppnaa.Q

namespace Go.Proofs.Ytcnpekpgghppnaa.Q
open Go.RowKit Go.Proofs.YtcnpekpgghppnaaW.PrintWords Go.Proofs.YtcnpekpgghppnaaW.PrintLast Go.Proofs.YtcnpekpgghppnaaW.PrintMore
attribute [local go_sem] max2_int min2_int max_two min_two max_three min_three max_four min_four   -- for this text's walks alone
set_option linter.unusedVariables false
set_option linter.unusedSimpArgs false

/-! ### rect_Area: function 36 -/
def rect_Area.f (a0_0 : Int) (a0_1 : Int) (a0_2 : Int) (a0_3 : Int) : Option (Int) := (rect_Valid.f a0_0 a0_1 a0_2 a0_3).bind fun t112 => (if t112 = true then (some (wrap64 ((wrap64 (a0_2 - a0_0)) * (wrap64 (a0_3 - a0_1))))) else (some 0))
set_option maxHeartbeats 8000000 in
set_option maxRecDepth 100000 in
theorem rect_Area.calls (a0_0 : Int) (a0_1 : Int) (a0_2 : Int) (a0_3 : Int) (r : Int) (w : World) (h : rect_Area.f a0_0 a0_1 a0_2 a0_3 = some r) :
    Calls Try.prog 36 #[.agg #[.int .i64 a0_0, .int .i64 a0_1, .int .i64 a0_2, .int .i64 a0_3]] w fun e w' => e = .returned (.int .i64 r) ∧ Below w.heap.size w w' := by
  have hu23 := Try.underlying23
  have HB := Aside0.mk (Below.refl w.heap.size w)
  have H : ((rect_Valid.f a0_0 a0_1 a0_2 a0_3).bind fun t112 => (if t112 = true then (some (wrap64 ((wrap64 (a0_2 - a0_0)) * (wrap64 (a0_3 - a0_1))))) else (some 0))) = some r := h
  clear h
  replace H := Option.bind_eq_some_iff.mp H
  obtain ⟨t112, A20, H⟩ := H
  replace H : (if t112 = true then (some (wrap64 ((wrap64 (a0_2 - a0_0)) * (wrap64 (a0_3 - a0_1))))) else (some 0)) = some r := H
  have A2 := Aside0.mk A20
  clear A20
  by_cases c3 : t112 = true
  · subst c3
    have H1 : (some (wrap64 ((wrap64 (a0_2 - a0_0)) * (wrap64 (a0_3 - a0_1))))) = some r := by rw [if_pos rfl] at H; exact H
    clear H
    have H := H1
    clear H1
    obtain rfl := Option.some.inj H
    go_enter Try.func36, Try.ntmps36
    go_wp2_with (first | ((with_reducible refine gate_dst (N := 1) rfl ?_); refine box_event ?hg (N := 1) ?hd (cs := #[.int .i64 a0_0, .int .i64 a0_1, .int .i64 a0_2, .int .i64 a0_3]) (t := 23) ?hr ?_; (case hd => rfl); (case hg => rfl); (case hr => first | (go_simp; done) | (go_simp; rfl)); intro gb111 hg w4 hbox hb; have n0_ := Aside0.mk (below_step (by repeat (first | (with_reducible first | exact HB.out | apply below_alloc | apply pw_below_drewN | apply below_drew1) | exact HB.out)) hb); have n1_ := Aside0.mk (hbox); have n2_ := Aside0.mk ((by rw [hg]; exact (below_size (by repeat (first | (with_reducible first | exact HB.out | apply below_alloc | apply pw_below_drewN | apply below_drew1) | exact HB.out))) : w.heap.size ≤ gb111)); have n3_ := Aside0.mk ((by rw [hg]; exact (below_size (by repeat (first | (with_reducible first | exact HB.out | apply below_alloc | apply pw_below_drewN | apply below_drew1) | exact HB.out))) : w.heap.size ≤ gb111)); clear HB; have HB := n0_; have BK111 := n1_; have GW111 := n2_; have GE111 := n3_; clear n0_ n1_ n2_ n3_; clear hb hbox hg; have hcz5_0 : w4.cell? ⟨gb111, 0, none⟩ = some (.int .i64 a0_0) := (blk_cell BK111.out 0).trans rfl; have hcz5_1 : w4.cell? ⟨gb111, 1, none⟩ = some (.int .i64 a0_1) := (blk_cell BK111.out 1).trans rfl; have hcz5_2 : w4.cell? ⟨gb111, 2, none⟩ = some (.int .i64 a0_2) := (blk_cell BK111.out 2).trans rfl; have hcz5_3 : w4.cell? ⟨gb111, 3, none⟩ = some (.int .i64 a0_3) := (blk_cell BK111.out 3).trans rfl; have hfz5_0 := blk_frozen BK111.out 0; have hfz5_1 := blk_frozen BK111.out 1; have hfz5_2 := blk_frozen BK111.out 2; have hfz5_3 := blk_frozen BK111.out 3) | ((with_reducible refine gate_callee (f := 31) rfl ?_); refine goesL_ (some 4) rfl rfl Try.func31 (by kernel_rfl) rfl #[.agg #[.int .i64 a0_0, .int .i64 a0_1, .int .i64 a0_2, .int .i64 a0_3]] rfl (by (try simp only [List.map_toArray, List.map_cons, List.map_nil]); first | done | rfl | (simp only [List.length_drop, List.length_take]; rfl)) ?_; (with_reducible refine (rect_Valid.calls a0_0 a0_1 a0_2 a0_3 true _ A2.out).mono ?_); rintro e w6 ⟨rfl, hb⟩; refine ⟨_, rfl, ?_⟩; have n0_ := Aside0.mk (blk_below (g := gb111) (o := .cells #[.int .i64 a0_0, .int .i64 a0_1, .int .i64 a0_2, .int .i64 a0_3] 23 (0, 0)) (by (with_reducible repeat (first | refine blk_drewN ?_ _ | refine blk_drew ?_ | refine blk_alloc ?_ _)); exact BK111.out) hb); have n1_ := Aside0.mk (below_step (by repeat (first | (with_reducible first | exact HB.out | apply below_alloc | apply pw_below_drewN | apply below_drew1 | refine below_set ?_ GE111.out) | exact HB.out)) hb); clear BK111; clear HB; have BK111 := n0_; have HB := n1_; clear n0_ n1_; (try clear hb); (try clear hb2); (try clear hk); (try clear hi); have hcz7_0 : w6.cell? ⟨gb111, 0, none⟩ = some (.int .i64 a0_0) := (blk_cell BK111.out 0).trans rfl; have hcz7_1 : w6.cell? ⟨gb111, 1, none⟩ = some (.int .i64 a0_1) := (blk_cell BK111.out 1).trans rfl; have hcz7_2 : w6.cell? ⟨gb111, 2, none⟩ = some (.int .i64 a0_2) := (blk_cell BK111.out 2).trans rfl; have hcz7_3 : w6.cell? ⟨gb111, 3, none⟩ = some (.int .i64 a0_3) := (blk_cell BK111.out 3).trans rfl; have hfz7_0 := blk_frozen BK111.out 0; have hfz7_1 := blk_frozen BK111.out 1; have hfz7_2 := blk_frozen BK111.out 2; have hfz7_3 := blk_frozen BK111.out 3))
    go_ret
    exact ⟨by first | rfl | (simp [errW_none, errW_some] <;> rfl) | (simp [*, errW_none, errW_some] <;> rfl), by repeat (first | (with_reducible first | exact HB.out | apply below_alloc | apply pw_below_drewN | apply below_drew1 | refine below_set ?_ GE111.out) | exact HB.out)⟩
  · replace c3 := Bool.eq_false_iff.mpr c3
    subst c3
    have H1 : (some 0) = some r := by rw [if_neg (show ¬ (false = true) by decide)] at H; exact H
    clear H
    have H := H1
    clear H1
    obtain rfl := Option.some.inj H
    go_enter Try.func36, Try.ntmps36
    go_wp2_with (first | ((with_reducible refine gate_dst (N := 1) rfl ?_); refine box_event ?hg (N := 1) ?hd (cs := #[.int .i64 a0_0, .int .i64 a0_1, .int .i64 a0_2, .int .i64 a0_3]) (t := 23) ?hr ?_; (case hd => rfl); (case hg => rfl); (case hr => first | (go_simp; done) | (go_simp; rfl)); intro gb111 hg w8 hbox hb; have n0_ := Aside0.mk (below_step (by repeat (first | (with_reducible first | exact HB.out | apply below_alloc | apply pw_below_drewN | apply below_drew1) | exact HB.out)) hb); have n1_ := Aside0.mk (hbox); have n2_ := Aside0.mk ((by rw [hg]; exact (below_size (by repeat (first | (with_reducible first | exact HB.out | apply below_alloc | apply pw_below_drewN | apply below_drew1) | exact HB.out))) : w.heap.size ≤ gb111)); have n3_ := Aside0.mk ((by rw [hg]; exact (below_size (by repeat (first | (with_reducible first | exact HB.out | apply below_alloc | apply pw_below_drewN | apply below_drew1) | exact HB.out))) : w.heap.size ≤ gb111)); clear HB; have HB := n0_; have BK111 := n1_; have GW111 := n2_; have GE111 := n3_; clear n0_ n1_ n2_ n3_; clear hb hbox hg; have hcz9_0 : w8.cell? ⟨gb111, 0, none⟩ = some (.int .i64 a0_0) := (blk_cell BK111.out 0).trans rfl; have hcz9_1 : w8.cell? ⟨gb111, 1, none⟩ = some (.int .i64 a0_1) := (blk_cell BK111.out 1).trans rfl; have hcz9_2 : w8.cell? ⟨gb111, 2, none⟩ = some (.int .i64 a0_2) := (blk_cell BK111.out 2).trans rfl; have hcz9_3 : w8.cell? ⟨gb111, 3, none⟩ = some (.int .i64 a0_3) := (blk_cell BK111.out 3).trans rfl; have hfz9_0 := blk_frozen BK111.out 0; have hfz9_1 := blk_frozen BK111.out 1; have hfz9_2 := blk_frozen BK111.out 2; have hfz9_3 := blk_frozen BK111.out 3) | ((with_reducible refine gate_callee (f := 31) rfl ?_); refine goesL_ (some 4) rfl rfl Try.func31 (by kernel_rfl) rfl #[.agg #[.int .i64 a0_0, .int .i64 a0_1, .int .i64 a0_2, .int .i64 a0_3]] rfl (by (try simp only [List.map_toArray, List.map_cons, List.map_nil]); first | done | rfl | (simp only [List.length_drop, List.length_take]; rfl)) ?_; (with_reducible refine (rect_Valid.calls a0_0 a0_1 a0_2 a0_3 false _ A2.out).mono ?_); rintro e w10 ⟨rfl, hb⟩; refine ⟨_, rfl, ?_⟩; have n0_ := Aside0.mk (blk_below (g := gb111) (o := .cells #[.int .i64 a0_0, .int .i64 a0_1, .int .i64 a0_2, .int .i64 a0_3] 23 (0, 0)) (by (with_reducible repeat (first | refine blk_drewN ?_ _ | refine blk_drew ?_ | refine blk_alloc ?_ _)); exact BK111.out) hb); have n1_ := Aside0.mk (below_step (by repeat (first | (with_reducible first | exact HB.out | apply below_alloc | apply pw_below_drewN | apply below_drew1 | refine below_set ?_ GE111.out) | exact HB.out)) hb); clear BK111; clear HB; have BK111 := n0_; have HB := n1_; clear n0_ n1_; (try clear hb); (try clear hb2); (try clear hk); (try clear hi)))
    go_ret
    exact ⟨by first | rfl | (simp [errW_none, errW_some] <;> rfl) | (simp [*, errW_none, errW_some] <;> rfl), by repeat (first | (with_reducible first | exact HB.out | apply below_alloc | apply pw_below_drewN | apply below_drew1 | refine below_set ?_ GE111.out) | exact HB.out)⟩

end Go.Proofs.Ytcnpekpgghppnaa.Q

namespace Go.Proofs.Ytcnpekpgghppnaa.Q
open Go.RowKit Go.Proofs.YtcnpekpgghppnaaW.PrintWords Go.Proofs.YtcnpekpgghppnaaW.PrintLast Go.Proofs.YtcnpekpgghppnaaW.PrintMore
attribute [local go_sem] max2_int min2_int max_two min_two max_three min_three max_four min_four   -- for this text's walks alone
set_option linter.unusedVariables false
set_option linter.unusedSimpArgs false

/-! ### plane_Valid: function 25 -/
def plane_Valid.f (a0_0 : Int) (a0_1 : Int) (a0_2 : Int) (a0_3 : Int) (l0_4 : List Int) : Option (Bool) := (rect_Valid.f a0_0 a0_1 a0_2 a0_3).bind fun t114 => (if t114 = true then ((rect_Area.f a0_0 a0_1 a0_2 a0_3).bind fun t115 => (if t115 ≤ 1048576 then ((rect_Area.f a0_0 a0_1 a0_2 a0_3).bind fun t116 => (some ((l0_4.length : Int) == t116))) else (some false))) else (some false))
def plane_Valid.T1 : Bool × List (List Nat × List Nat) := (true, [([], []), ([0], [0]), ([1], [1]), ([2, 2], [2]), ([3], [3]), ([4, 3], [3, 4]), ([5, 3, 3], [3, 5]), ([6, 3], [3, 6]), ([3, 7], [3, 7]), ([8, 6], [8]), ([9], [9]), ([10, 9], [9, 10]), ([11, 9], [9, 11]), ([9], [9]), ([13, 9], [9, 13]), ([14, 9, 9], [9, 14]), ([12, 15, 9], [9, 12, 15]), ([9, 16], [9, 16]), ([17, 15, 0, 1, 2, 3, 4, 5, 6, 7, 8, 9, 10, 11, 12, 13, 14, 15, 16, 17], [17])])
def plane_Valid.B1 : List Nat := [0, 1, 3, 7, 15, 31, 63, 127, 255, 511, 1023, 2047, 4095, 1023, 9215, 25599, 65535, 131071, 262143]
theorem plane_Valid.tab1 : rtab .any (opsOf Try.f25 1) = plane_Valid.T1 := by kernel_rfl
theorem plane_Valid.bits1 : waitsOk plane_Valid.T1.2 plane_Valid.B1 = true := by kernel_rfl
set_option maxHeartbeats 8000000 in
set_option maxRecDepth 100000 in
theorem plane_Valid.calls (a0_0 : Int) (a0_1 : Int) (a0_2 : Int) (a0_3 : Int) (A0_4 : Option Addr) (c0_4 : Nat) (l0_4 : List Int) (r : Bool) (w : World) (hr0_4 : Kd.C (Kd.int .i64) w A0_4 l0_4.length l0_4) (hc0_4 : l0_4.length ≤ c0_4) (h : plane_Valid.f a0_0 a0_1 a0_2 a0_3 l0_4 = some r) :
    Calls Try.prog 25 #[.agg #[.int .i64 a0_0, .int .i64 a0_1, .int .i64 a0_2, .int .i64 a0_3, .slice A0_4 l0_4.length c0_4]] w fun e w' => e = .returned (.bool r) ∧ Below w.heap.size w w' := by
  have hu26 := Try.underlying26
  have hu23 := Try.underlying23
  have HR0_4 := Aside0.mk hr0_4
  have HC0_4 := Aside0.mk hc0_4
  clear hr0_4 hc0_4
  have HB := Aside0.mk (Below.refl w.heap.size w)
  have H : ((rect_Valid.f a0_0 a0_1 a0_2 a0_3).bind fun t114 => (if t114 = true then ((rect_Area.f a0_0 a0_1 a0_2 a0_3).bind fun t115 => (if t115 ≤ 1048576 then ((rect_Area.f a0_0 a0_1 a0_2 a0_3).bind fun t116 => (some ((l0_4.length : Int) == t116))) else (some false))) else (some false))) = some r := h
  clear h
  replace H := Option.bind_eq_some_iff.mp H
  obtain ⟨t114, A20, H⟩ := H
  replace H : (if t114 = true then ((rect_Area.f a0_0 a0_1 a0_2 a0_3).bind fun t115 => (if t115 ≤ 1048576 then ((rect_Area.f a0_0 a0_1 a0_2 a0_3).bind fun t116 => (some ((l0_4.length : Int) == t116))) else (some false))) else (some false)) = some r := H
  have A2 := Aside0.mk A20
  clear A20
  by_cases c3 : t114 = true
  · subst c3
    have H1 : ((rect_Area.f a0_0 a0_1 a0_2 a0_3).bind fun t115 => (if t115 ≤ 1048576 then ((rect_Area.f a0_0 a0_1 a0_2 a0_3).bind fun t116 => (some ((l0_4.length : Int) == t116))) else (some false))) = some r := by rw [if_pos rfl] at H; exact H
    clear H
    have H := H1
    clear H1
    replace H := Option.bind_eq_some_iff.mp H
    obtain ⟨t115, A40, H⟩ := H
    replace H : (if t115 ≤ 1048576 then ((rect_Area.f a0_0 a0_1 a0_2 a0_3).bind fun t116 => (some ((l0_4.length : Int) == t116))) else (some false)) = some r := H
    have A4 := Aside0.mk A40
    clear A40
    by_cases c5 : t115 ≤ 1048576
    · rw [if_pos c5] at H
      have c5b0 : decide (t115 ≤ 1048576) = true := decide_eq_true c5
      clear c5
      replace H := Option.bind_eq_some_iff.mp H
      obtain ⟨t116, A60, H⟩ := H
      obtain rfl : t115 = t116 := by have E_ := A4.out.symm.trans A60; simpa using E_
      replace H : (some ((l0_4.length : Int) == t115)) = some r := H
      have A6 := Aside0.mk A60
      clear A60
      obtain rfl := Option.some.inj H
      go_enter Try.func25, Try.ntmps25
      try go_wp2_with (first | ((with_reducible refine gate_dst (N := 1) rfl ?_); (try (refine gate_guard (by rfl) ?_; dsimp only)); refine box_event ?hg (N := 1) ?hd (cs := #[.int .i64 a0_0, .int .i64 a0_1, .int .i64 a0_2, .int .i64 a0_3, .slice A0_4 l0_4.length c0_4]) (t := 26) ?hr ?_; (case hd => rfl); (case hg => rfl); (case hr => first | (go_simp; done) | (go_simp; rfl)); intro gb113 hg w7 hbox hb; have n0_ := Aside0.mk (below_step (by repeat (first | (with_reducible first | exact HB.out | apply below_alloc | apply pw_below_drewN | apply below_drew1) | exact HB.out)) hb); have n1_ := Aside0.mk (hbox); have n2_ := Aside0.mk ((by rw [hg]; exact (below_size (by repeat (first | (with_reducible first | exact HB.out | apply below_alloc | apply pw_below_drewN | apply below_drew1) | exact HB.out))) : w.heap.size ≤ gb113)); have n3_ := Aside0.mk ((by rw [hg]; exact (below_size (by repeat (first | (with_reducible first | exact HB.out | apply below_alloc | apply pw_below_drewN | apply below_drew1) | exact HB.out))) : w.heap.size ≤ gb113)); clear HB; have HB := n0_; have BK113 := n1_; have GW113 := n2_; have GE113 := n3_; clear n0_ n1_ n2_ n3_; clear hb hbox hg))
      have n0_ := Aside0.mk (blk_drew BK113.out)
      have n1_ := Aside0.mk (below_drew1 HB.out)
      clear BK113
      clear HB
      have BK113 := n0_
      have HB := n1_
      clear n0_ n1_
      refine start_ (n := 19) (S := fun w' => w'.cell? ⟨gb113, 0, none⟩ = some (.int .i64 a0_0) ∧ w'.cell? ⟨gb113, 1, none⟩ = some (.int .i64 a0_1) ∧ w'.cell? ⟨gb113, 2, none⟩ = some (.int .i64 a0_2) ∧ w'.cell? ⟨gb113, 3, none⟩ = some (.int .i64 a0_3) ∧ w'.cell? ⟨gb113, 4, none⟩ = some (.slice A0_4 l0_4.length c0_4)) (ds := []) #[false, false, false, false, false, false, false, false, false, false, false, false, false, false, false, false, false, false, false] (by kernel_rfl) rfl rfl ⟨(blk_cell BK113.out 0).trans rfl, (blk_cell BK113.out 1).trans rfl, (blk_cell BK113.out 2).trans rfl, (blk_cell BK113.out 3).trans rfl, (blk_cell BK113.out 4).trans rfl⟩ (fun hHeld => ?_); refine with_tabW plane_Valid.tab1 plane_Valid.bits1 (fun HT_ HW_ => ?_)
      generalize w7.drew = w8 at BK113 HB hHeld ⊢
      refine pure_ (i := 0) (N := some 3) (v := ?_) (a' := ?_) #[true, false, false, false, false, false, false, false, false, false, false, false, false, false, false, false, false, false, false] rfl rfl (any_of HT_.out (by kernel_rfl)) (fun _ _ _ h => h) (Or.inl ⟨by rfl, ?_⟩) ?_ ?_
      rotate_left
      · intro w'
        go_simp
        with_reducible rfl
      rotate_left
      · simp only [Act.put, List.setIfInBounds_toArray, List.set_cons_zero, List.set_cons_succ, i64_w, i32_w]
        rfl
      refine take_ (i := 1) (N := some 4) (v := ?_) (a' := ?_) #[true, true, false, false, false, false, false, false, false, false, false, false, false, false, false, false, false, false, false] rfl rfl (take_ofW HT_.out HW_.out (by kernel_rfl)) (fun _ _ _ h => h) (Or.inl ⟨by rfl, ?_⟩) hHeld ?_ ?_
      rotate_left
      · rintro w' ⟨s0, s1, s2, s3, s4⟩
        go_simp
        with_reducible rfl
      rotate_left
      · simp only [Act.put, List.setIfInBounds_toArray, List.set_cons_zero, List.set_cons_succ, i64_w, i32_w]
        rfl
      refine one_ (i := 2) (N := some 5) #[true, true, true, false, false, false, false, false, false, false, false, false, false, false, false, false, false, false, false] rfl rfl (one_of HT_.out (by kernel_rfl)) (by decide) (fun K hK => ?_)
      refine goes_ Try.func31 (by kernel_rfl) rfl #[.agg #[.int .i64 a0_0, .int .i64 a0_1, .int .i64 a0_2, .int .i64 a0_3]] (by rfl) rfl rfl (by (try simp only [List.map_toArray, List.map_cons, List.map_nil]); first | done | rfl | (simp only [List.length_drop, List.length_take]; rfl)) ?_
      with_reducible refine (rect_Valid.calls a0_0 a0_1 a0_2 a0_3 true _ A2.out).mono ?_
      rintro e w9 ⟨rfl, hb⟩
      refine ⟨_, rfl, ?_⟩
      have n0_ := Aside0.mk (blk_below (g := gb113) (o := .cells #[.int .i64 a0_0, .int .i64 a0_1, .int .i64 a0_2, .int .i64 a0_3, .slice A0_4 l0_4.length c0_4] 26 (0, 0)) (by (with_reducible repeat (first | refine blk_drewN ?_ _ | refine blk_drew ?_ | refine blk_alloc ?_ _)); exact BK113.out) hb)
      have n1_ := Aside0.mk (below_step (by repeat (first | (with_reducible first | exact HB.out | apply below_alloc | apply pw_below_drewN | apply below_drew1 | refine below_set ?_ GE113.out) | exact HB.out)) hb)
      clear BK113
      clear HB
      have BK113 := n0_
      have HB := n1_
      clear n0_ n1_
      (try clear hb)
      (try clear hb2)
      (try clear hk)
      (try clear hi)
      refine hK.out _ _ ⟨(blk_cell BK113.out 0).trans rfl, (blk_cell BK113.out 1).trans rfl, (blk_cell BK113.out 2).trans rfl, (blk_cell BK113.out 3).trans rfl, (blk_cell BK113.out 4).trans rfl⟩ (fun hHeld => ?_)
      clear hK K
      refine norm_ (a' := ?_) ?_ ?_
      rotate_left
      · show Act.put _ (some 5) _ = _
        simp only [Act.put, List.setIfInBounds_toArray, List.set_cons_zero, List.set_cons_succ, i64_w, i32_w]
        rfl
      refine pure_ (i := 3) (N := some 6) (v := ?_) (a' := ?_) #[true, true, true, true, false, false, false, false, false, false, false, false, false, false, false, false, false, false, false] rfl rfl (any_of HT_.out (by kernel_rfl)) (fun _ _ _ h => h) (Or.inl ⟨by rfl, ?_⟩) ?_ ?_
      rotate_left
      · intro w'
        go_simp
        with_reducible rfl
      rotate_left
      · simp only [Act.put, List.setIfInBounds_toArray, List.set_cons_zero, List.set_cons_succ, i64_w, i32_w]
        rfl
      refine pure_ (i := 4) (N := some 7) (v := ?_) (a' := ?_) #[true, true, true, true, true, false, false, false, false, false, false, false, false, false, false, false, false, false, false] rfl rfl (any_of HT_.out (by kernel_rfl)) (fun _ _ _ h => h) (Or.inl ⟨by rfl, ?_⟩) ?_ ?_
      rotate_left
      · intro w'
        go_simp
        with_reducible rfl
      rotate_left
      · simp only [Act.put, List.setIfInBounds_toArray, List.set_cons_zero, List.set_cons_succ, i64_w, i32_w]
        rfl
      refine take_ (i := 5) (N := some 8) (v := ?_) (a' := ?_) #[true, true, true, true, true, true, false, false, false, false, false, false, false, false, false, false, false, false, false] rfl rfl (take_ofW HT_.out HW_.out (by kernel_rfl)) (fun _ _ _ h => h) (Or.inl ⟨by rfl, ?_⟩) hHeld ?_ ?_
      rotate_left
      · rintro w' ⟨s0, s1, s2, s3, s4⟩
        go_simp
        with_reducible rfl
      rotate_left
      · simp only [Act.put, List.setIfInBounds_toArray, List.set_cons_zero, List.set_cons_succ, i64_w, i32_w]
        rfl
      refine one_ (i := 6) (N := some 9) #[true, true, true, true, true, true, true, false, false, false, false, false, false, false, false, false, false, false, false] rfl rfl (one_of HT_.out (by kernel_rfl)) (by decide) (fun K hK => ?_)
      refine goes_ Try.func36 (by kernel_rfl) rfl #[.agg #[.int .i64 a0_0, .int .i64 a0_1, .int .i64 a0_2, .int .i64 a0_3]] (by rfl) rfl rfl (by (try simp only [List.map_toArray, List.map_cons, List.map_nil]); first | done | rfl | (simp only [List.length_drop, List.length_take]; rfl)) ?_
      with_reducible refine (rect_Area.calls a0_0 a0_1 a0_2 a0_3 t115 _ A4.out).mono ?_
      rintro e w10 ⟨rfl, hb⟩
      refine ⟨_, rfl, ?_⟩
      have n0_ := Aside0.mk (blk_below (g := gb113) (o := .cells #[.int .i64 a0_0, .int .i64 a0_1, .int .i64 a0_2, .int .i64 a0_3, .slice A0_4 l0_4.length c0_4] 26 (0, 0)) (by (with_reducible repeat (first | refine blk_drewN ?_ _ | refine blk_drew ?_ | refine blk_alloc ?_ _)); exact BK113.out) hb)
      have n1_ := Aside0.mk (below_step (by repeat (first | (with_reducible first | exact HB.out | apply below_alloc | apply pw_below_drewN | apply below_drew1 | refine below_set ?_ GE113.out) | exact HB.out)) hb)
      clear BK113
      clear HB
      have BK113 := n0_
      have HB := n1_
      clear n0_ n1_
      (try clear hb)
      (try clear hb2)
      (try clear hk)
      (try clear hi)
      refine hK.out _ _ ⟨(blk_cell BK113.out 0).trans rfl, (blk_cell BK113.out 1).trans rfl, (blk_cell BK113.out 2).trans rfl, (blk_cell BK113.out 3).trans rfl, (blk_cell BK113.out 4).trans rfl⟩ (fun hHeld => ?_)
      clear hK K
      refine norm_ (a' := ?_) ?_ ?_
      rotate_left
      · show Act.put _ (some 9) _ = _
        simp only [Act.put, List.setIfInBounds_toArray, List.set_cons_zero, List.set_cons_succ, i64_w, i32_w]
        rfl
      refine pure_ (i := 7) (N := some 10) (v := ?_) (a' := ?_) #[true, true, true, true, true, true, true, true, false, false, false, false, false, false, false, false, false, false, false] rfl rfl (any_of HT_.out (by kernel_rfl)) (fun _ _ _ h => h) (Or.inl ⟨by rfl, ?_⟩) ?_ ?_
      rotate_left
      · intro w'
        go_simp
        with_reducible rfl
      rotate_left
      · simp only [Act.put, List.setIfInBounds_toArray, List.set_cons_zero, List.set_cons_succ, i64_w, i32_w]
        rfl
      refine pure_ (i := 8) (N := some 11) (v := ?_) (a' := ?_) #[true, true, true, true, true, true, true, true, true, false, false, false, false, false, false, false, false, false, false] rfl rfl (any_of HT_.out (by kernel_rfl)) (fun _ _ _ h => h) (Or.inl ⟨by rfl, ?_⟩) ?_ ?_
      rotate_left
      · intro w'
        go_simp
        with_reducible rfl
      rotate_left
      · simp only [Act.put, List.setIfInBounds_toArray, List.set_cons_zero, List.set_cons_succ, i64_w, i32_w]
        rfl
      refine pure_ (i := 9) (N := some 12) (v := ?_) (a' := ?_) #[true, true, true, true, true, true, true, true, true, true, false, false, false, false, false, false, false, false, false] rfl rfl (any_of HT_.out (by kernel_rfl)) (fun _ _ _ h => h) (Or.inl ⟨by rfl, ?_⟩) ?_ ?_
      rotate_left
      · intro w'
        go_simp
        with_reducible rfl
      rotate_left
      · simp only [Act.put, List.setIfInBounds_toArray, List.set_cons_zero, List.set_cons_succ, i64_w, i32_w]
        rfl
      refine pure_ (i := 10) (N := some 13) (v := ?_) (a' := ?_) #[true, true, true, true, true, true, true, true, true, true, true, false, false, false, false, false, false, false, false] rfl rfl (any_of HT_.out (by kernel_rfl)) (fun _ _ _ h => h) (Or.inl ⟨by rfl, ?_⟩) ?_ ?_
      rotate_left
      · intro w'
        go_simp
        with_reducible rfl
      rotate_left
      · simp only [Act.put, List.setIfInBounds_toArray, List.set_cons_zero, List.set_cons_succ, i64_w, i32_w]
        rfl
      refine pure_ (i := 13) (N := some 16) (v := ?_) (a' := ?_) #[true, true, true, true, true, true, true, true, true, true, true, false, false, true, false, false, false, false, false] rfl rfl (any_of HT_.out (by kernel_rfl)) (fun _ _ _ h => h) (Or.inl ⟨by rfl, ?_⟩) ?_ ?_
      rotate_left
      · intro w'
        go_simp
        with_reducible rfl
      rotate_left
      · simp only [Act.put, List.setIfInBounds_toArray, List.set_cons_zero, List.set_cons_succ, i64_w, i32_w]
        rfl
      refine take_ (i := 11) (N := some 14) (v := ?_) (a' := ?_) #[true, true, true, true, true, true, true, true, true, true, true, true, false, true, false, false, false, false, false] rfl rfl (take_ofW HT_.out HW_.out (by kernel_rfl)) (fun _ _ _ h => h) (Or.inl ⟨by rfl, ?_⟩) hHeld ?_ ?_
      rotate_left
      · rintro w' ⟨s0, s1, s2, s3, s4⟩
        go_simp
        with_reducible rfl
      rotate_left
      · simp only [Act.put, List.setIfInBounds_toArray, List.set_cons_zero, List.set_cons_succ, i64_w, i32_w]
        rfl
      refine pure_ (i := 12) (N := some 15) (v := ?_) (a' := ?_) #[true, true, true, true, true, true, true, true, true, true, true, true, true, true, false, false, false, false, false] rfl rfl (any_of HT_.out (by kernel_rfl)) (fun _ _ _ h => h) (Or.inl ⟨by rfl, ?_⟩) ?_ ?_
      rotate_left
      · intro w'
        go_simp
        with_reducible rfl
      rotate_left
      · simp only [Act.put, List.setIfInBounds_toArray, List.set_cons_zero, List.set_cons_succ, i64_w, i32_w]
        rfl
      refine take_ (i := 14) (N := some 17) (v := ?_) (a' := ?_) #[true, true, true, true, true, true, true, true, true, true, true, true, true, true, true, false, false, false, false] rfl rfl (take_ofW HT_.out HW_.out (by kernel_rfl)) (fun _ _ _ h => h) (Or.inl ⟨by rfl, ?_⟩) hHeld ?_ ?_
      rotate_left
      · rintro w' ⟨s0, s1, s2, s3, s4⟩
        go_simp
        with_reducible rfl
      rotate_left
      · simp only [Act.put, List.setIfInBounds_toArray, List.set_cons_zero, List.set_cons_succ, i64_w, i32_w]
        rfl
      refine one_ (i := 15) (N := some 18) #[true, true, true, true, true, true, true, true, true, true, true, true, true, true, true, true, false, false, false] rfl rfl (one_of HT_.out (by kernel_rfl)) (by decide) (fun K hK => ?_)
      refine goes_ Try.func36 (by kernel_rfl) rfl #[.agg #[.int .i64 a0_0, .int .i64 a0_1, .int .i64 a0_2, .int .i64 a0_3]] (by rfl) rfl rfl (by (try simp only [List.map_toArray, List.map_cons, List.map_nil]); first | done | rfl | (simp only [List.length_drop, List.length_take]; rfl)) ?_
      with_reducible refine (rect_Area.calls a0_0 a0_1 a0_2 a0_3 t115 _ A6.out).mono ?_
      rintro e w11 ⟨rfl, hb⟩
      refine ⟨_, rfl, ?_⟩
      have n0_ := Aside0.mk (blk_below (g := gb113) (o := .cells #[.int .i64 a0_0, .int .i64 a0_1, .int .i64 a0_2, .int .i64 a0_3, .slice A0_4 l0_4.length c0_4] 26 (0, 0)) (by (with_reducible repeat (first | refine blk_drewN ?_ _ | refine blk_drew ?_ | refine blk_alloc ?_ _)); exact BK113.out) hb)
      have n1_ := Aside0.mk (below_step (by repeat (first | (with_reducible first | exact HB.out | apply below_alloc | apply pw_below_drewN | apply below_drew1 | refine below_set ?_ GE113.out) | exact HB.out)) hb)
      clear BK113
      clear HB
      have BK113 := n0_
      have HB := n1_
      clear n0_ n1_
      (try clear hb)
      (try clear hb2)
      (try clear hk)
      (try clear hi)
      refine hK.out _ _ ⟨(blk_cell BK113.out 0).trans rfl, (blk_cell BK113.out 1).trans rfl, (blk_cell BK113.out 2).trans rfl, (blk_cell BK113.out 3).trans rfl, (blk_cell BK113.out 4).trans rfl⟩ (fun hHeld => ?_)
      clear hK K
      refine norm_ (a' := ?_) ?_ ?_
      rotate_left
      · show Act.put _ (some 18) _ = _
        simp only [Act.put, List.setIfInBounds_toArray, List.set_cons_zero, List.set_cons_succ, i64_w, i32_w]
        rfl
      refine pure_ (i := 16) (N := some 19) (v := ?_) (a' := ?_) #[true, true, true, true, true, true, true, true, true, true, true, true, true, true, true, true, true, false, false] rfl rfl (any_of HT_.out (by kernel_rfl)) (fun _ _ _ h => h) (Or.inl ⟨by rfl, ?_⟩) ?_ ?_
      rotate_left
      · intro w'
        go_simp
        with_reducible rfl
      rotate_left
      · simp only [Act.put, List.setIfInBounds_toArray, List.set_cons_zero, List.set_cons_succ, i64_w, i32_w]
        rfl
      refine pure_ (i := 17) (N := some 20) (v := ?_) (a' := ?_) #[true, true, true, true, true, true, true, true, true, true, true, true, true, true, true, true, true, true, false] rfl rfl (any_of HT_.out (by kernel_rfl)) (fun _ _ _ h => h) (Or.inl ⟨by rfl, ?_⟩) ?_ ?_
      rotate_left
      · intro w'
        go_simp
        with_reducible rfl
      rotate_left
      · simp only [Act.put, List.setIfInBounds_toArray, List.set_cons_zero, List.set_cons_succ, i64_w, i32_w]
        rfl
      refine pure_ (i := 18) (N := some 2) (v := ?_) (a' := ?_) #[true, true, true, true, true, true, true, true, true, true, true, true, true, true, true, true, true, true, true] rfl rfl (any_of HT_.out (by kernel_rfl)) (fun _ _ _ h => h) (Or.inl ⟨by rfl, ?_⟩) ?_ ?_
      rotate_left
      · intro w'
        go_simp
        with_reducible rfl
      rotate_left
      · simp only [Act.put, List.setIfInBounds_toArray, List.set_cons_zero, List.set_cons_succ, i64_w, i32_w]
        rfl
      refine done_ (done_of HT_.out (by kernel_rfl)) ?_
      try go_wp2
      go_ret
      exact ⟨by first | rfl | (simp [errW_none, errW_some] <;> rfl) | (simp [*, errW_none, errW_some] <;> rfl), by repeat (first | (with_reducible first | exact HB.out | apply below_alloc | apply pw_below_drewN | apply below_drew1 | refine below_set ?_ GE113.out) | exact HB.out)⟩
    · rw [if_neg c5] at H
      have c5b0 : decide (t115 ≤ 1048576) = false := decide_eq_false c5
      clear c5
      obtain rfl := Option.some.inj H
      go_enter Try.func25, Try.ntmps25
      try go_wp2_with (first | ((with_reducible refine gate_dst (N := 1) rfl ?_); (try (refine gate_guard (by rfl) ?_; dsimp only)); refine box_event ?hg (N := 1) ?hd (cs := #[.int .i64 a0_0, .int .i64 a0_1, .int .i64 a0_2, .int .i64 a0_3, .slice A0_4 l0_4.length c0_4]) (t := 26) ?hr ?_; (case hd => rfl); (case hg => rfl); (case hr => first | (go_simp; done) | (go_simp; rfl)); intro gb113 hg w12 hbox hb; have n0_ := Aside0.mk (below_step (by repeat (first | (with_reducible first | exact HB.out | apply below_alloc | apply pw_below_drewN | apply below_drew1) | exact HB.out)) hb); have n1_ := Aside0.mk (hbox); have n2_ := Aside0.mk ((by rw [hg]; exact (below_size (by repeat (first | (with_reducible first | exact HB.out | apply below_alloc | apply pw_below_drewN | apply below_drew1) | exact HB.out))) : w.heap.size ≤ gb113)); have n3_ := Aside0.mk ((by rw [hg]; exact (below_size (by repeat (first | (with_reducible first | exact HB.out | apply below_alloc | apply pw_below_drewN | apply below_drew1) | exact HB.out))) : w.heap.size ≤ gb113)); clear HB; have HB := n0_; have BK113 := n1_; have GW113 := n2_; have GE113 := n3_; clear n0_ n1_ n2_ n3_; clear hb hbox hg))
      have n0_ := Aside0.mk (blk_drew BK113.out)
      have n1_ := Aside0.mk (below_drew1 HB.out)
      clear BK113
      clear HB
      have BK113 := n0_
      have HB := n1_
      clear n0_ n1_
      refine start_ (n := 19) (S := fun w' => w'.cell? ⟨gb113, 0, none⟩ = some (.int .i64 a0_0) ∧ w'.cell? ⟨gb113, 1, none⟩ = some (.int .i64 a0_1) ∧ w'.cell? ⟨gb113, 2, none⟩ = some (.int .i64 a0_2) ∧ w'.cell? ⟨gb113, 3, none⟩ = some (.int .i64 a0_3) ∧ w'.cell? ⟨gb113, 4, none⟩ = some (.slice A0_4 l0_4.length c0_4)) (ds := []) #[false, false, false, false, false, false, false, false, false, false, false, false, false, false, false, false, false, false, false] (by kernel_rfl) rfl rfl ⟨(blk_cell BK113.out 0).trans rfl, (blk_cell BK113.out 1).trans rfl, (blk_cell BK113.out 2).trans rfl, (blk_cell BK113.out 3).trans rfl, (blk_cell BK113.out 4).trans rfl⟩ (fun hHeld => ?_); refine with_tabW plane_Valid.tab1 plane_Valid.bits1 (fun HT_ HW_ => ?_)
      generalize w12.drew = w13 at BK113 HB hHeld ⊢
      refine pure_ (i := 0) (N := some 3) (v := ?_) (a' := ?_) #[true, false, false, false, false, false, false, false, false, false, false, false, false, false, false, false, false, false, false] rfl rfl (any_of HT_.out (by kernel_rfl)) (fun _ _ _ h => h) (Or.inl ⟨by rfl, ?_⟩) ?_ ?_
      rotate_left
      · intro w'
        go_simp
        with_reducible rfl
      rotate_left
      · simp only [Act.put, List.setIfInBounds_toArray, List.set_cons_zero, List.set_cons_succ, i64_w, i32_w]
        rfl
      refine take_ (i := 1) (N := some 4) (v := ?_) (a' := ?_) #[true, true, false, false, false, false, false, false, false, false, false, false, false, false, false, false, false, false, false] rfl rfl (take_ofW HT_.out HW_.out (by kernel_rfl)) (fun _ _ _ h => h) (Or.inl ⟨by rfl, ?_⟩) hHeld ?_ ?_
      rotate_left
      · rintro w' ⟨s0, s1, s2, s3, s4⟩
        go_simp
        with_reducible rfl
      rotate_left
      · simp only [Act.put, List.setIfInBounds_toArray, List.set_cons_zero, List.set_cons_succ, i64_w, i32_w]
        rfl
      refine one_ (i := 2) (N := some 5) #[true, true, true, false, false, false, false, false, false, false, false, false, false, false, false, false, false, false, false] rfl rfl (one_of HT_.out (by kernel_rfl)) (by decide) (fun K hK => ?_)
      refine goes_ Try.func31 (by kernel_rfl) rfl #[.agg #[.int .i64 a0_0, .int .i64 a0_1, .int .i64 a0_2, .int .i64 a0_3]] (by rfl) rfl rfl (by (try simp only [List.map_toArray, List.map_cons, List.map_nil]); first | done | rfl | (simp only [List.length_drop, List.length_take]; rfl)) ?_
      with_reducible refine (rect_Valid.calls a0_0 a0_1 a0_2 a0_3 true _ A2.out).mono ?_
      rintro e w14 ⟨rfl, hb⟩
      refine ⟨_, rfl, ?_⟩
      have n0_ := Aside0.mk (blk_below (g := gb113) (o := .cells #[.int .i64 a0_0, .int .i64 a0_1, .int .i64 a0_2, .int .i64 a0_3, .slice A0_4 l0_4.length c0_4] 26 (0, 0)) (by (with_reducible repeat (first | refine blk_drewN ?_ _ | refine blk_drew ?_ | refine blk_alloc ?_ _)); exact BK113.out) hb)
      have n1_ := Aside0.mk (below_step (by repeat (first | (with_reducible first | exact HB.out | apply below_alloc | apply pw_below_drewN | apply below_drew1 | refine below_set ?_ GE113.out) | exact HB.out)) hb)
      clear BK113
      clear HB
      have BK113 := n0_
      have HB := n1_
      clear n0_ n1_
      (try clear hb)
      (try clear hb2)
      (try clear hk)
      (try clear hi)
      refine hK.out _ _ ⟨(blk_cell BK113.out 0).trans rfl, (blk_cell BK113.out 1).trans rfl, (blk_cell BK113.out 2).trans rfl, (blk_cell BK113.out 3).trans rfl, (blk_cell BK113.out 4).trans rfl⟩ (fun hHeld => ?_)
      clear hK K
      refine norm_ (a' := ?_) ?_ ?_
      rotate_left
      · show Act.put _ (some 5) _ = _
        simp only [Act.put, List.setIfInBounds_toArray, List.set_cons_zero, List.set_cons_succ, i64_w, i32_w]
        rfl
      refine pure_ (i := 3) (N := some 6) (v := ?_) (a' := ?_) #[true, true, true, true, false, false, false, false, false, false, false, false, false, false, false, false, false, false, false] rfl rfl (any_of HT_.out (by kernel_rfl)) (fun _ _ _ h => h) (Or.inl ⟨by rfl, ?_⟩) ?_ ?_
      rotate_left
      · intro w'
        go_simp
        with_reducible rfl
      rotate_left
      · simp only [Act.put, List.setIfInBounds_toArray, List.set_cons_zero, List.set_cons_succ, i64_w, i32_w]
        rfl
      refine pure_ (i := 4) (N := some 7) (v := ?_) (a' := ?_) #[true, true, true, true, true, false, false, false, false, false, false, false, false, false, false, false, false, false, false] rfl rfl (any_of HT_.out (by kernel_rfl)) (fun _ _ _ h => h) (Or.inl ⟨by rfl, ?_⟩) ?_ ?_
      rotate_left
      · intro w'
        go_simp
        with_reducible rfl
      rotate_left
      · simp only [Act.put, List.setIfInBounds_toArray, List.set_cons_zero, List.set_cons_succ, i64_w, i32_w]
        rfl
      refine take_ (i := 5) (N := some 8) (v := ?_) (a' := ?_) #[true, true, true, true, true, true, false, false, false, false, false, false, false, false, false, false, false, false, false] rfl rfl (take_ofW HT_.out HW_.out (by kernel_rfl)) (fun _ _ _ h => h) (Or.inl ⟨by rfl, ?_⟩) hHeld ?_ ?_
      rotate_left
      · rintro w' ⟨s0, s1, s2, s3, s4⟩
        go_simp
        with_reducible rfl
      rotate_left
      · simp only [Act.put, List.setIfInBounds_toArray, List.set_cons_zero, List.set_cons_succ, i64_w, i32_w]
        rfl
      refine one_ (i := 6) (N := some 9) #[true, true, true, true, true, true, true, false, false, false, false, false, false, false, false, false, false, false, false] rfl rfl (one_of HT_.out (by kernel_rfl)) (by decide) (fun K hK => ?_)
      refine goes_ Try.func36 (by kernel_rfl) rfl #[.agg #[.int .i64 a0_0, .int .i64 a0_1, .int .i64 a0_2, .int .i64 a0_3]] (by rfl) rfl rfl (by (try simp only [List.map_toArray, List.map_cons, List.map_nil]); first | done | rfl | (simp only [List.length_drop, List.length_take]; rfl)) ?_
      with_reducible refine (rect_Area.calls a0_0 a0_1 a0_2 a0_3 t115 _ A4.out).mono ?_
      rintro e w15 ⟨rfl, hb⟩
      refine ⟨_, rfl, ?_⟩
      have n0_ := Aside0.mk (blk_below (g := gb113) (o := .cells #[.int .i64 a0_0, .int .i64 a0_1, .int .i64 a0_2, .int .i64 a0_3, .slice A0_4 l0_4.length c0_4] 26 (0, 0)) (by (with_reducible repeat (first | refine blk_drewN ?_ _ | refine blk_drew ?_ | refine blk_alloc ?_ _)); exact BK113.out) hb)
      have n1_ := Aside0.mk (below_step (by repeat (first | (with_reducible first | exact HB.out | apply below_alloc | apply pw_below_drewN | apply below_drew1 | refine below_set ?_ GE113.out) | exact HB.out)) hb)
      clear BK113
      clear HB
      have BK113 := n0_
      have HB := n1_
      clear n0_ n1_
      (try clear hb)
      (try clear hb2)
      (try clear hk)
      (try clear hi)
      refine hK.out _ _ ⟨(blk_cell BK113.out 0).trans rfl, (blk_cell BK113.out 1).trans rfl, (blk_cell BK113.out 2).trans rfl, (blk_cell BK113.out 3).trans rfl, (blk_cell BK113.out 4).trans rfl⟩ (fun hHeld => ?_)
      clear hK K
      refine norm_ (a' := ?_) ?_ ?_
      rotate_left
      · show Act.put _ (some 9) _ = _
        simp only [Act.put, List.setIfInBounds_toArray, List.set_cons_zero, List.set_cons_succ, i64_w, i32_w]
        rfl
      refine pure_ (i := 7) (N := some 10) (v := ?_) (a' := ?_) #[true, true, true, true, true, true, true, true, false, false, false, false, false, false, false, false, false, false, false] rfl rfl (any_of HT_.out (by kernel_rfl)) (fun _ _ _ h => h) (Or.inl ⟨by rfl, ?_⟩) ?_ ?_
      rotate_left
      · intro w'
        go_simp
        with_reducible rfl
      rotate_left
      · simp only [Act.put, List.setIfInBounds_toArray, List.set_cons_zero, List.set_cons_succ, i64_w, i32_w]
        rfl
      refine pure_ (i := 8) (N := some 11) (v := ?_) (a' := ?_) #[true, true, true, true, true, true, true, true, true, false, false, false, false, false, false, false, false, false, false] rfl rfl (any_of HT_.out (by kernel_rfl)) (fun _ _ _ h => h) (Or.inl ⟨by rfl, ?_⟩) ?_ ?_
      rotate_left
      · intro w'
        go_simp
        with_reducible rfl
      rotate_left
      · simp only [Act.put, List.setIfInBounds_toArray, List.set_cons_zero, List.set_cons_succ, i64_w, i32_w]
        rfl
      refine pure_ (i := 9) (N := some 12) (v := ?_) (a' := ?_) #[true, true, true, true, true, true, true, true, true, true, false, false, false, false, false, false, false, false, false] rfl rfl (any_of HT_.out (by kernel_rfl)) (fun _ _ _ h => h) (Or.inl ⟨by rfl, ?_⟩) ?_ ?_
      rotate_left
      · intro w'
        go_simp
        with_reducible rfl
      rotate_left
      · simp only [Act.put, List.setIfInBounds_toArray, List.set_cons_zero, List.set_cons_succ, i64_w, i32_w]
        rfl
      refine pure_ (i := 10) (N := some 13) (v := undef) (a' := ?_) #[true, true, true, true, true, true, true, true, true, true, true, false, false, false, false, false, false, false, false] rfl rfl (any_of HT_.out (by kernel_rfl)) (fun _ _ _ h => h) (Or.inr ⟨by rfl, rfl⟩) ?_ ?_
      rotate_left
      · simp only [Act.put, List.setIfInBounds_toArray, List.set_cons_zero, List.set_cons_succ, i64_w, i32_w]
        rfl
      refine pure_ (i := 11) (N := some 14) (v := undef) (a' := ?_) #[true, true, true, true, true, true, true, true, true, true, true, true, false, false, false, false, false, false, false] rfl rfl (any_of HT_.out (by kernel_rfl)) (fun _ _ _ h => h) (Or.inr ⟨by rfl, rfl⟩) ?_ ?_
      rotate_left
      · simp only [Act.put, List.setIfInBounds_toArray, List.set_cons_zero, List.set_cons_succ, i64_w, i32_w]
        rfl
      refine pure_ (i := 12) (N := some 15) (v := undef) (a' := ?_) #[true, true, true, true, true, true, true, true, true, true, true, true, true, false, false, false, false, false, false] rfl rfl (any_of HT_.out (by kernel_rfl)) (fun _ _ _ h => h) (Or.inr ⟨by rfl, rfl⟩) ?_ ?_
      rotate_left
      · simp only [Act.put, List.setIfInBounds_toArray, List.set_cons_zero, List.set_cons_succ, i64_w, i32_w]
        rfl
      refine pure_ (i := 13) (N := some 16) (v := undef) (a' := ?_) #[true, true, true, true, true, true, true, true, true, true, true, true, true, true, false, false, false, false, false] rfl rfl (any_of HT_.out (by kernel_rfl)) (fun _ _ _ h => h) (Or.inr ⟨by rfl, rfl⟩) ?_ ?_
      rotate_left
      · simp only [Act.put, List.setIfInBounds_toArray, List.set_cons_zero, List.set_cons_succ, i64_w, i32_w]
        rfl
      refine pure_ (i := 14) (N := some 17) (v := undef) (a' := ?_) #[true, true, true, true, true, true, true, true, true, true, true, true, true, true, true, false, false, false, false] rfl rfl (any_of HT_.out (by kernel_rfl)) (fun _ _ _ h => h) (Or.inr ⟨by rfl, rfl⟩) ?_ ?_
      rotate_left
      · simp only [Act.put, List.setIfInBounds_toArray, List.set_cons_zero, List.set_cons_succ, i64_w, i32_w]
        rfl
      refine pure_ (i := 15) (N := some 18) (v := undef) (a' := ?_) #[true, true, true, true, true, true, true, true, true, true, true, true, true, true, true, true, false, false, false] rfl rfl (any_of HT_.out (by kernel_rfl)) (fun _ _ _ h => h) (Or.inr ⟨by rfl, rfl⟩) ?_ ?_
      rotate_left
      · simp only [Act.put, List.setIfInBounds_toArray, List.set_cons_zero, List.set_cons_succ, i64_w, i32_w]
        rfl
      refine pure_ (i := 16) (N := some 19) (v := undef) (a' := ?_) #[true, true, true, true, true, true, true, true, true, true, true, true, true, true, true, true, true, false, false] rfl rfl (any_of HT_.out (by kernel_rfl)) (fun _ _ _ h => h) (Or.inr ⟨by rfl, rfl⟩) ?_ ?_
      rotate_left
      · simp only [Act.put, List.setIfInBounds_toArray, List.set_cons_zero, List.set_cons_succ, i64_w, i32_w]
        rfl
      refine pure_ (i := 17) (N := some 20) (v := ?_) (a' := ?_) #[true, true, true, true, true, true, true, true, true, true, true, true, true, true, true, true, true, true, false] rfl rfl (any_of HT_.out (by kernel_rfl)) (fun _ _ _ h => h) (Or.inl ⟨by rfl, ?_⟩) ?_ ?_
      rotate_left
      · intro w'
        go_simp
        with_reducible rfl
      rotate_left
      · simp only [Act.put, List.setIfInBounds_toArray, List.set_cons_zero, List.set_cons_succ, i64_w, i32_w]
        rfl
      refine pure_ (i := 18) (N := some 2) (v := ?_) (a' := ?_) #[true, true, true, true, true, true, true, true, true, true, true, true, true, true, true, true, true, true, true] rfl rfl (any_of HT_.out (by kernel_rfl)) (fun _ _ _ h => h) (Or.inl ⟨by rfl, ?_⟩) ?_ ?_
      rotate_left
      · intro w'
        go_simp
        with_reducible rfl
      rotate_left
      · simp only [Act.put, List.setIfInBounds_toArray, List.set_cons_zero, List.set_cons_succ, i64_w, i32_w]
        rfl
      refine done_ (done_of HT_.out (by kernel_rfl)) ?_
      try go_wp2
      go_ret
      exact ⟨by first | rfl | (simp [errW_none, errW_some] <;> rfl) | (simp [*, errW_none, errW_some] <;> rfl), by repeat (first | (with_reducible first | exact HB.out | apply below_alloc | apply pw_below_drewN | apply below_drew1 | refine below_set ?_ GE113.out) | exact HB.out)⟩
  · replace c3 := Bool.eq_false_iff.mpr c3
    subst c3
    have H1 : (some false) = some r := by rw [if_neg (show ¬ (false = true) by decide)] at H; exact H
    clear H
    have H := H1
    clear H1
    obtain rfl := Option.some.inj H
    go_enter Try.func25, Try.ntmps25
    try go_wp2_with (first | ((with_reducible refine gate_dst (N := 1) rfl ?_); (try (refine gate_guard (by rfl) ?_; dsimp only)); refine box_event ?hg (N := 1) ?hd (cs := #[.int .i64 a0_0, .int .i64 a0_1, .int .i64 a0_2, .int .i64 a0_3, .slice A0_4 l0_4.length c0_4]) (t := 26) ?hr ?_; (case hd => rfl); (case hg => rfl); (case hr => first | (go_simp; done) | (go_simp; rfl)); intro gb113 hg w16 hbox hb; have n0_ := Aside0.mk (below_step (by repeat (first | (with_reducible first | exact HB.out | apply below_alloc | apply pw_below_drewN | apply below_drew1) | exact HB.out)) hb); have n1_ := Aside0.mk (hbox); have n2_ := Aside0.mk ((by rw [hg]; exact (below_size (by repeat (first | (with_reducible first | exact HB.out | apply below_alloc | apply pw_below_drewN | apply below_drew1) | exact HB.out))) : w.heap.size ≤ gb113)); have n3_ := Aside0.mk ((by rw [hg]; exact (below_size (by repeat (first | (with_reducible first | exact HB.out | apply below_alloc | apply pw_below_drewN | apply below_drew1) | exact HB.out))) : w.heap.size ≤ gb113)); clear HB; have HB := n0_; have BK113 := n1_; have GW113 := n2_; have GE113 := n3_; clear n0_ n1_ n2_ n3_; clear hb hbox hg))
    have n0_ := Aside0.mk (blk_drew BK113.out)
    have n1_ := Aside0.mk (below_drew1 HB.out)
    clear BK113
    clear HB
    have BK113 := n0_
    have HB := n1_
    clear n0_ n1_
    refine start_ (n := 19) (S := fun w' => w'.cell? ⟨gb113, 0, none⟩ = some (.int .i64 a0_0) ∧ w'.cell? ⟨gb113, 1, none⟩ = some (.int .i64 a0_1) ∧ w'.cell? ⟨gb113, 2, none⟩ = some (.int .i64 a0_2) ∧ w'.cell? ⟨gb113, 3, none⟩ = some (.int .i64 a0_3) ∧ w'.cell? ⟨gb113, 4, none⟩ = some (.slice A0_4 l0_4.length c0_4)) (ds := []) #[false, false, false, false, false, false, false, false, false, false, false, false, false, false, false, false, false, false, false] (by kernel_rfl) rfl rfl ⟨(blk_cell BK113.out 0).trans rfl, (blk_cell BK113.out 1).trans rfl, (blk_cell BK113.out 2).trans rfl, (blk_cell BK113.out 3).trans rfl, (blk_cell BK113.out 4).trans rfl⟩ (fun hHeld => ?_); refine with_tabW plane_Valid.tab1 plane_Valid.bits1 (fun HT_ HW_ => ?_)
    generalize w16.drew = w17 at BK113 HB hHeld ⊢
    refine pure_ (i := 0) (N := some 3) (v := ?_) (a' := ?_) #[true, false, false, false, false, false, false, false, false, false, false, false, false, false, false, false, false, false, false] rfl rfl (any_of HT_.out (by kernel_rfl)) (fun _ _ _ h => h) (Or.inl ⟨by rfl, ?_⟩) ?_ ?_
    rotate_left
    · intro w'
      go_simp
      with_reducible rfl
    rotate_left
    · simp only [Act.put, List.setIfInBounds_toArray, List.set_cons_zero, List.set_cons_succ, i64_w, i32_w]
      rfl
    refine take_ (i := 1) (N := some 4) (v := ?_) (a' := ?_) #[true, true, false, false, false, false, false, false, false, false, false, false, false, false, false, false, false, false, false] rfl rfl (take_ofW HT_.out HW_.out (by kernel_rfl)) (fun _ _ _ h => h) (Or.inl ⟨by rfl, ?_⟩) hHeld ?_ ?_
    rotate_left
    · rintro w' ⟨s0, s1, s2, s3, s4⟩
      go_simp
      with_reducible rfl
    rotate_left
    · simp only [Act.put, List.setIfInBounds_toArray, List.set_cons_zero, List.set_cons_succ, i64_w, i32_w]
      rfl
    refine one_ (i := 2) (N := some 5) #[true, true, true, false, false, false, false, false, false, false, false, false, false, false, false, false, false, false, false] rfl rfl (one_of HT_.out (by kernel_rfl)) (by decide) (fun K hK => ?_)
    refine goes_ Try.func31 (by kernel_rfl) rfl #[.agg #[.int .i64 a0_0, .int .i64 a0_1, .int .i64 a0_2, .int .i64 a0_3]] (by rfl) rfl rfl (by (try simp only [List.map_toArray, List.map_cons, List.map_nil]); first | done | rfl | (simp only [List.length_drop, List.length_take]; rfl)) ?_
    with_reducible refine (rect_Valid.calls a0_0 a0_1 a0_2 a0_3 false _ A2.out).mono ?_
    rintro e w18 ⟨rfl, hb⟩
    refine ⟨_, rfl, ?_⟩
    have n0_ := Aside0.mk (blk_below (g := gb113) (o := .cells #[.int .i64 a0_0, .int .i64 a0_1, .int .i64 a0_2, .int .i64 a0_3, .slice A0_4 l0_4.length c0_4] 26 (0, 0)) (by (with_reducible repeat (first | refine blk_drewN ?_ _ | refine blk_drew ?_ | refine blk_alloc ?_ _)); exact BK113.out) hb)
    have n1_ := Aside0.mk (below_step (by repeat (first | (with_reducible first | exact HB.out | apply below_alloc | apply pw_below_drewN | apply below_drew1 | refine below_set ?_ GE113.out) | exact HB.out)) hb)
    clear BK113
    clear HB
    have BK113 := n0_
    have HB := n1_
    clear n0_ n1_
    (try clear hb)
    (try clear hb2)
    (try clear hk)
    (try clear hi)
    refine hK.out _ _ ⟨(blk_cell BK113.out 0).trans rfl, (blk_cell BK113.out 1).trans rfl, (blk_cell BK113.out 2).trans rfl, (blk_cell BK113.out 3).trans rfl, (blk_cell BK113.out 4).trans rfl⟩ (fun hHeld => ?_)
    clear hK K
    refine norm_ (a' := ?_) ?_ ?_
    rotate_left
    · show Act.put _ (some 5) _ = _
      simp only [Act.put, List.setIfInBounds_toArray, List.set_cons_zero, List.set_cons_succ, i64_w, i32_w]
      rfl
    refine pure_ (i := 3) (N := some 6) (v := ?_) (a' := ?_) #[true, true, true, true, false, false, false, false, false, false, false, false, false, false, false, false, false, false, false] rfl rfl (any_of HT_.out (by kernel_rfl)) (fun _ _ _ h => h) (Or.inl ⟨by rfl, ?_⟩) ?_ ?_
    rotate_left
    · intro w'
      go_simp
      with_reducible rfl
    rotate_left
    · simp only [Act.put, List.setIfInBounds_toArray, List.set_cons_zero, List.set_cons_succ, i64_w, i32_w]
      rfl
    refine pure_ (i := 4) (N := some 7) (v := undef) (a' := ?_) #[true, true, true, true, true, false, false, false, false, false, false, false, false, false, false, false, false, false, false] rfl rfl (any_of HT_.out (by kernel_rfl)) (fun _ _ _ h => h) (Or.inr ⟨by rfl, rfl⟩) ?_ ?_
    rotate_left
    · simp only [Act.put, List.setIfInBounds_toArray, List.set_cons_zero, List.set_cons_succ, i64_w, i32_w]
      rfl
    refine pure_ (i := 5) (N := some 8) (v := undef) (a' := ?_) #[true, true, true, true, true, true, false, false, false, false, false, false, false, false, false, false, false, false, false] rfl rfl (any_of HT_.out (by kernel_rfl)) (fun _ _ _ h => h) (Or.inr ⟨by rfl, rfl⟩) ?_ ?_
    rotate_left
    · simp only [Act.put, List.setIfInBounds_toArray, List.set_cons_zero, List.set_cons_succ, i64_w, i32_w]
      rfl
    refine pure_ (i := 6) (N := some 9) (v := undef) (a' := ?_) #[true, true, true, true, true, true, true, false, false, false, false, false, false, false, false, false, false, false, false] rfl rfl (any_of HT_.out (by kernel_rfl)) (fun _ _ _ h => h) (Or.inr ⟨by rfl, rfl⟩) ?_ ?_
    rotate_left
    · simp only [Act.put, List.setIfInBounds_toArray, List.set_cons_zero, List.set_cons_succ, i64_w, i32_w]
      rfl
    refine pure_ (i := 7) (N := some 10) (v := undef) (a' := ?_) #[true, true, true, true, true, true, true, true, false, false, false, false, false, false, false, false, false, false, false] rfl rfl (any_of HT_.out (by kernel_rfl)) (fun _ _ _ h => h) (Or.inr ⟨by rfl, rfl⟩) ?_ ?_
    rotate_left
    · simp only [Act.put, List.setIfInBounds_toArray, List.set_cons_zero, List.set_cons_succ, i64_w, i32_w]
      rfl
    refine pure_ (i := 8) (N := some 11) (v := ?_) (a' := ?_) #[true, true, true, true, true, true, true, true, true, false, false, false, false, false, false, false, false, false, false] rfl rfl (any_of HT_.out (by kernel_rfl)) (fun _ _ _ h => h) (Or.inl ⟨by rfl, ?_⟩) ?_ ?_
    rotate_left
    · intro w'
      go_simp
      with_reducible rfl
    rotate_left
    · simp only [Act.put, List.setIfInBounds_toArray, List.set_cons_zero, List.set_cons_succ, i64_w, i32_w]
      rfl
    refine pure_ (i := 9) (N := some 12) (v := ?_) (a' := ?_) #[true, true, true, true, true, true, true, true, true, true, false, false, false, false, false, false, false, false, false] rfl rfl (any_of HT_.out (by kernel_rfl)) (fun _ _ _ h => h) (Or.inl ⟨by rfl, ?_⟩) ?_ ?_
    rotate_left
    · intro w'
      go_simp
      with_reducible rfl
    rotate_left
    · simp only [Act.put, List.setIfInBounds_toArray, List.set_cons_zero, List.set_cons_succ, i64_w, i32_w]
      rfl
    refine pure_ (i := 10) (N := some 13) (v := undef) (a' := ?_) #[true, true, true, true, true, true, true, true, true, true, true, false, false, false, false, false, false, false, false] rfl rfl (any_of HT_.out (by kernel_rfl)) (fun _ _ _ h => h) (Or.inr ⟨by rfl, rfl⟩) ?_ ?_
    rotate_left
    · simp only [Act.put, List.setIfInBounds_toArray, List.set_cons_zero, List.set_cons_succ, i64_w, i32_w]
      rfl
    refine pure_ (i := 11) (N := some 14) (v := undef) (a' := ?_) #[true, true, true, true, true, true, true, true, true, true, true, true, false, false, false, false, false, false, false] rfl rfl (any_of HT_.out (by kernel_rfl)) (fun _ _ _ h => h) (Or.inr ⟨by rfl, rfl⟩) ?_ ?_
    rotate_left
    · simp only [Act.put, List.setIfInBounds_toArray, List.set_cons_zero, List.set_cons_succ, i64_w, i32_w]
      rfl
    refine pure_ (i := 12) (N := some 15) (v := undef) (a' := ?_) #[true, true, true, true, true, true, true, true, true, true, true, true, true, false, false, false, false, false, false] rfl rfl (any_of HT_.out (by kernel_rfl)) (fun _ _ _ h => h) (Or.inr ⟨by rfl, rfl⟩) ?_ ?_
    rotate_left
    · simp only [Act.put, List.setIfInBounds_toArray, List.set_cons_zero, List.set_cons_succ, i64_w, i32_w]
      rfl
    refine pure_ (i := 13) (N := some 16) (v := undef) (a' := ?_) #[true, true, true, true, true, true, true, true, true, true, true, true, true, true, false, false, false, false, false] rfl rfl (any_of HT_.out (by kernel_rfl)) (fun _ _ _ h => h) (Or.inr ⟨by rfl, rfl⟩) ?_ ?_
    rotate_left
    · simp only [Act.put, List.setIfInBounds_toArray, List.set_cons_zero, List.set_cons_succ, i64_w, i32_w]
      rfl
    refine pure_ (i := 14) (N := some 17) (v := undef) (a' := ?_) #[true, true, true, true, true, true, true, true, true, true, true, true, true, true, true, false, false, false, false] rfl rfl (any_of HT_.out (by kernel_rfl)) (fun _ _ _ h => h) (Or.inr ⟨by rfl, rfl⟩) ?_ ?_
    rotate_left
    · simp only [Act.put, List.setIfInBounds_toArray, List.set_cons_zero, List.set_cons_succ, i64_w, i32_w]
      rfl
    refine pure_ (i := 15) (N := some 18) (v := undef) (a' := ?_) #[true, true, true, true, true, true, true, true, true, true, true, true, true, true, true, true, false, false, false] rfl rfl (any_of HT_.out (by kernel_rfl)) (fun _ _ _ h => h) (Or.inr ⟨by rfl, rfl⟩) ?_ ?_
    rotate_left
    · simp only [Act.put, List.setIfInBounds_toArray, List.set_cons_zero, List.set_cons_succ, i64_w, i32_w]
      rfl
    refine pure_ (i := 16) (N := some 19) (v := undef) (a' := ?_) #[true, true, true, true, true, true, true, true, true, true, true, true, true, true, true, true, true, false, false] rfl rfl (any_of HT_.out (by kernel_rfl)) (fun _ _ _ h => h) (Or.inr ⟨by rfl, rfl⟩) ?_ ?_
    rotate_left
    · simp only [Act.put, List.setIfInBounds_toArray, List.set_cons_zero, List.set_cons_succ, i64_w, i32_w]
      rfl
    refine pure_ (i := 17) (N := some 20) (v := ?_) (a' := ?_) #[true, true, true, true, true, true, true, true, true, true, true, true, true, true, true, true, true, true, false] rfl rfl (any_of HT_.out (by kernel_rfl)) (fun _ _ _ h => h) (Or.inl ⟨by rfl, ?_⟩) ?_ ?_
    rotate_left
    · intro w'
      go_simp
      with_reducible rfl
    rotate_left
    · simp only [Act.put, List.setIfInBounds_toArray, List.set_cons_zero, List.set_cons_succ, i64_w, i32_w]
      rfl
    refine pure_ (i := 18) (N := some 2) (v := ?_) (a' := ?_) #[true, true, true, true, true, true, true, true, true, true, true, true, true, true, true, true, true, true, true] rfl rfl (any_of HT_.out (by kernel_rfl)) (fun _ _ _ h => h) (Or.inl ⟨by rfl, ?_⟩) ?_ ?_
    rotate_left
    · intro w'
      go_simp
      with_reducible rfl
    rotate_left
    · simp only [Act.put, List.setIfInBounds_toArray, List.set_cons_zero, List.set_cons_succ, i64_w, i32_w]
      rfl
    refine done_ (done_of HT_.out (by kernel_rfl)) ?_
    try go_wp2
    go_ret
    exact ⟨by first | rfl | (simp [errW_none, errW_some] <;> rfl) | (simp [*, errW_none, errW_some] <;> rfl), by repeat (first | (with_reducible first | exact HB.out | apply below_alloc | apply pw_below_drewN | apply below_drew1 | refine below_set ?_ GE113.out) | exact HB.out)⟩

end Go.Proofs.Ytcnpekpgghppnaa.Q

namespace Go.Proofs.Ytcnpekpgghppnaa.Q
open Go.RowKit Go.Proofs.YtcnpekpgghppnaaW.PrintWords Go.Proofs.YtcnpekpgghppnaaW.PrintLast Go.Proofs.YtcnpekpgghppnaaW.PrintMore
attribute [local go_sem] max2_int min2_int max_two min_two max_three min_three max_four min_four   -- for this text's walks alone
set_option linter.unusedVariables false
set_option linter.unusedSimpArgs false

/-! ### plane_width: function 65 -/
def plane_width.f (a0_0 : Int) (a0_1 : Int) (a0_2 : Int) (a0_3 : Int) (l0_4 : List Int) : Option (Int) := some (wrap64 (a0_2 - a0_0))
set_option maxHeartbeats 8000000 in
set_option maxRecDepth 100000 in
theorem plane_width.calls (a0_0 : Int) (a0_1 : Int) (a0_2 : Int) (a0_3 : Int) (A0_4 : Option Addr) (c0_4 : Nat) (l0_4 : List Int) (r : Int) (w : World) (hr0_4 : Kd.C (Kd.int .i64) w A0_4 l0_4.length l0_4) (hc0_4 : l0_4.length ≤ c0_4) (h : plane_width.f a0_0 a0_1 a0_2 a0_3 l0_4 = some r) :
    Calls Try.prog 65 #[.agg #[.int .i64 a0_0, .int .i64 a0_1, .int .i64 a0_2, .int .i64 a0_3, .slice A0_4 l0_4.length c0_4]] w fun e w' => e = .returned (.int .i64 r) ∧ Below w.heap.size w w' := by
  have hu26 := Try.underlying26
  have HR0_4 := Aside0.mk hr0_4
  have HC0_4 := Aside0.mk hc0_4
  clear hr0_4 hc0_4
  have HB := Aside0.mk (Below.refl w.heap.size w)
  have H : (some (wrap64 (a0_2 - a0_0))) = some r := h
  clear h
  obtain rfl := Option.some.inj H
  go_enter Try.func65, Try.ntmps65
  go_wp2_with (first | ((with_reducible refine gate_dst (N := 1) rfl ?_); refine box_event ?hg (N := 1) ?hd (cs := #[.int .i64 a0_0, .int .i64 a0_1, .int .i64 a0_2, .int .i64 a0_3, .slice A0_4 l0_4.length c0_4]) (t := 26) ?hr ?_; (case hd => rfl); (case hg => rfl); (case hr => first | (go_simp; done) | (go_simp; rfl)); intro gb121 hg w2 hbox hb; have n0_ := Aside0.mk (below_step (by repeat (first | (with_reducible first | exact HB.out | apply below_alloc | apply pw_below_drewN | apply below_drew1) | exact HB.out)) hb); have n1_ := Aside0.mk (hbox); have n2_ := Aside0.mk ((by rw [hg]; exact (below_size (by repeat (first | (with_reducible first | exact HB.out | apply below_alloc | apply pw_below_drewN | apply below_drew1) | exact HB.out))) : w.heap.size ≤ gb121)); have n3_ := Aside0.mk ((by rw [hg]; exact (below_size (by repeat (first | (with_reducible first | exact HB.out | apply below_alloc | apply pw_below_drewN | apply below_drew1) | exact HB.out))) : w.heap.size ≤ gb121)); clear HB; have HB := n0_; have BK121 := n1_; have GW121 := n2_; have GE121 := n3_; clear n0_ n1_ n2_ n3_; clear hb hbox hg; have hcz3_0 : w2.cell? ⟨gb121, 0, none⟩ = some (.int .i64 a0_0) := (blk_cell BK121.out 0).trans rfl; have hcz3_1 : w2.cell? ⟨gb121, 1, none⟩ = some (.int .i64 a0_1) := (blk_cell BK121.out 1).trans rfl; have hcz3_2 : w2.cell? ⟨gb121, 2, none⟩ = some (.int .i64 a0_2) := (blk_cell BK121.out 2).trans rfl; have hcz3_3 : w2.cell? ⟨gb121, 3, none⟩ = some (.int .i64 a0_3) := (blk_cell BK121.out 3).trans rfl; have hcz3_4 : w2.cell? ⟨gb121, 4, none⟩ = some (.slice A0_4 l0_4.length c0_4) := (blk_cell BK121.out 4).trans rfl; have hfz3_0 := blk_frozen BK121.out 0; have hfz3_1 := blk_frozen BK121.out 1; have hfz3_2 := blk_frozen BK121.out 2; have hfz3_3 := blk_frozen BK121.out 3; have hfz3_4 := blk_frozen BK121.out 4))
  go_ret
  exact ⟨by first | rfl | (simp [errW_none, errW_some] <;> rfl) | (simp [*, errW_none, errW_some] <;> rfl), by repeat (first | (with_reducible first | exact HB.out | apply below_alloc | apply pw_below_drewN | apply below_drew1 | refine below_set ?_ GE121.out) | exact HB.out)⟩

end Go.Proofs.Ytcnpekpgghppnaa.Q

/- A column of a plane, read and set. Printed by wip/tools of this session. -/
namespace Go.Proofs.Ytcnpekpgghppnaa.Q
open Go.RowKit Go.Proofs.YtcnpekpgghppnaaW.PrintWords Go.Proofs.YtcnpekpgghppnaaW.PrintLast Go.Proofs.YtcnpekpgghppnaaW.PrintMore
set_option linter.unusedVariables false
set_option linter.unusedSimpArgs false

theorem Bks.grown1 {α : Type} {d : Kd α} {e : Nat} {n : Nat} {w0 W W' : World} {g t : Nat} {cs : Array Value} (h : Bks n w0 W [(g, t, cs)]) {base : Nat} {ok : Nat → Prop} {v : Value} {xs : List α} (hR : d.R e W base ok v xs) (hg : W.grownBy W' v.ownBlock) (hb : Below n w0 W') (h1 : e ≠ t) : Bks n w0 W' [(g, t, cs)] :=
  ⟨fun i b hi => blk_grown (h.blk i b hi) hg (Kd.R_ne hR (h.blk i b hi) (by
    match i, hi with
    | 0, hi => cases hi; exact h1
    | i + 1, hi => simp at hi)), h.ne, h.ge, hb⟩
/-- A valid plane. -/
def PV (x0 y0 x1 y1 : Int) (D : List Int) : Prop := (0 ≤ x0 ∧ x0 ≤ x1 ∧ x1 ≤ 4096) ∧ (0 ≤ y0 ∧ y0 ≤ y1 ∧ y1 ≤ 4096) ∧ (x1 - x0) * (y1 - y0) ≤ 1048576 ∧ (D.length : Int) = (x1 - x0) * (y1 - y0)
theorem PV.valid {x0 y0 x1 y1 : Int} {D : List Int} (h : PV x0 y0 x1 y1 D) : plane_Valid.f x0 y0 x1 y1 D = some true := by
  obtain ⟨⟨a1, a2, a3⟩, ⟨b1, b2, b3⟩, h3, h4⟩ := h
  have hv : rect_Valid.f x0 y0 x1 y1 = some true := by
    unfold rect_Valid.f
    rw [if_pos a1, if_pos a2, if_pos a3, if_pos b1, if_pos b2, decide_eq_true b3]
  have hnn : 0 ≤ (x1 - x0) * (y1 - y0) := Int.mul_nonneg (by omega) (by omega)
  have ha : rect_Area.f x0 y0 x1 y1 = some ((x1 - x0) * (y1 - y0)) := by
    unfold rect_Area.f
    rw [hv]
    simp only [Option.bind_some, if_true]
    rw [show wrap64 (x1 - x0) = x1 - x0 by unfold wrap64; omega, show wrap64 (y1 - y0) = y1 - y0 by unfold wrap64; omega]
    congr 1
    generalize (x1 - x0) * (y1 - y0) = m at *
    unfold wrap64
    omega
  unfold plane_Valid.f
  rw [hv, ha]
  simp only [Option.bind_some, if_true]
  rw [if_pos h3, h4]
  simp
/-- A column: each w-th number from i on. -/
def colF (w : Int) (D : List Int) : Nat → Int → List Int → Option (List Int)
  | 0, _, _ => none
  | k + 1, i, acc => if i < (D.length : Int) then (if 0 ≤ i then (if acc.length < 1000000 then colF w D k (wrap64 (i + w)) (acc ++ [rd D i]) else none) else none) else some acc
set_option maxHeartbeats 8000000 in
set_option maxRecDepth 100000 in
theorem plane_Column.good (k : Nat) (x0 y0 x1 y1 : Int) (A : Option Addr) (c : Nat) (D : List Int) (x : Int) (col : List Int) (w : World) (hr : Kd.C (Kd.int .i64) w A D.length D) (hc : D.length ≤ c) (hv : PV x0 y0 x1 y1 D) (hx0 : x0 ≤ x) (hx1 : x < x1) (h : colF (x1 - x0) D k (x - x0) [] = some col) :
    Calls Try.prog 62 #[.agg #[.int .i64 x0, .int .i64 y0, .int .i64 x1, .int .i64 y1, .slice A D.length c], .int .i64 x] w fun e w' => ∃ v, e = .returned (.tuple #[v, .bool true]) ∧ Kd.R (Kd.int .i64) 3 w' w.heap.size (fun _ => True) v col ∧ Below w.heap.size w w' := by
  have H := Aside0.mk h
  have HR := Aside0.mk hr
  have HC := Aside0.mk hc
  have HV := Aside0.mk hv.valid
  have hw : wrap64 (x1 - x0) = x1 - x0 := by have := hv.1; unfold wrap64; omega
  have hx : wrap64 (x - x0) = x - x0 := by have := hv.1; unfold wrap64; omega
  have hy : wrap64 (y1 - y0) = y1 - y0 := by have := hv.2.1; unfold wrap64; omega
  have HW := Aside0.mk (show plane_width.f x0 y0 x1 y1 D = some (x1 - x0) by unfold plane_width.f; rw [hw])
  have HY := Aside0.mk (show 0 ≤ wrap64 (y1 - y0) ∧ wrap64 (y1 - y0) ≤ 4096 by have := hv.2.1; omega)
  have b0 : decide (x < x0) = false := decide_eq_false (by omega)
  have b1 : decide (x ≥ x1) = false := decide_eq_false (by omega)
  have b2 : decide (x1 ≤ x) = false := decide_eq_false (by omega)
  clear h hr hc hv hx0 hx1 hw
  have K00 := Aside0.mk (Bks.nil w)
  go_enter Try.func62, Try.ntmps62
  go_wp2_with (first
    | ((with_reducible refine gate_dst (N := 2) rfl ?_); refine box_event ?hg (N := 2) ?hd (cs := #[.int .i64 x0, .int .i64 y0, .int .i64 x1, .int .i64 y1, .slice A D.length c]) (t := 26) ?hr ?_; (case hd => rfl); (case hg => rfl); (case hr => first | (go_simp; done) | (go_simp; rfl)); intro g2 hg W2 hbox hb; have K := Aside0.mk (K00.out.box (Nat.le_refl _) hg hbox hb); clear hg hbox hb K00)
    | ((with_reducible refine gate_dst (N := 8) rfl ?_); refine load_ev rfl 26 (.tmp 2) rfl rfl (K.out.get 0 rfl) Try.underlying26 rfl ?_)
    | (go_at_call 25; (with_reducible refine (plane_Valid.calls x0 y0 x1 y1 A c D true _ (Kd.C_below HR.out K.out.below) HC.out HV.out).mono ?_); rintro _ w1 ⟨rfl, b⟩; have K' := Aside0.mk (K.out.call (below_size K.out.below) b); clear K; have K := K'; clear K'; clear b; have f0 : w1.cell? ⟨g2, 0, none⟩ = some (.int .i64 x0) := K.out.cell 0 rfl 0 rfl; have f1 : w1.cell? ⟨g2, 1, none⟩ = some (.int .i64 y0) := K.out.cell 0 rfl 1 rfl; have f2 : w1.cell? ⟨g2, 2, none⟩ = some (.int .i64 x1) := K.out.cell 0 rfl 2 rfl; have f3 : w1.cell? ⟨g2, 3, none⟩ = some (.int .i64 y1) := K.out.cell 0 rfl 3 rfl; have f4 : w1.cell? ⟨g2, 4, none⟩ = some (.slice A D.length c) := K.out.cell 0 rfl 4 rfl)
    | ((with_reducible refine gate_dst (N := 32) rfl ?_); refine Kd.R_make_cap (Kd.int .i64) (w0 := w1) w1.heap.size 3 rfl (N := 32) rfl 24 (.const (.int .i64 0)) (.tmp 31) rfl .i64 .i64 0 (wrap64 (y1 - y0)) rfl rfl Try.underlying24 (.int .i64 0) 8 info3 rfl (by decide) (by omega) (0 : Int) (okp := fun _ => False) (ok := fun _ => True) rfl (fun _ h => h.elim) trivial (by omega) (by have := HY.out; omega) (by have := HY.out; omega) (Below.refl _ _) (Nat.le_refl _) ?_; intro v6 w3 ho hb hg hat; have HL := Aside0.mk (Kd.R_lower ho (below_size K.out.below)); have K' := Aside0.mk (K.out.call (below_size K.out.below) hb); clear K; have K := K'; clear K'; clear ho hb hat hg f0 f1 f2 f3 f4; have f0 : w3.cell? ⟨g2, 0, none⟩ = some (.int .i64 x0) := K.out.cell 0 rfl 0 rfl))
  clear b0 b1 b2 HV hy HY f0
  go_loopg [6, 7] k (fun kq v6 v7 w' => ∃ (i : Int) (acc : List Int), v7 = .int .i64 i ∧ Aside0 (colF (x1 - x0) D kq i acc = some col) ∧ Aside0 (Bks w.heap.size w w' [(g2, 26, #[.int .i64 x0, .int .i64 y0, .int .i64 x1, .int .i64 y1, .slice A D.length c])]) ∧ Aside0 (Kd.R (Kd.int .i64) 3 w' w.heap.size (fun _ => True) v6 acc))
  case atStart => exact ⟨_, [], by rw [hx], H, K, HL⟩
  case round =>
  clear H K HL hx
  obtain ⟨i, acc, rfl, HX, K, HL⟩ := hrel
  cases gk with
  | zero => exact absurd HX.out (by simp [colF])
  | succ kk =>
  have hs := HX.out
  clear HX
  rw [colF.eq_2] at hs
  have f4 : wr.cell? ⟨g2, 4, none⟩ = some (.slice A D.length c) := K.out.cell 0 rfl 4 rfl
  by_cases hi : i < (D.length : Int)
  rotate_left
  · rw [if_neg hi] at hs
    have hb0 : decide (i < (D.length : Int)) = false := decide_eq_false hi
    obtain rfl := Option.some.inj hs
    clear hs hi
    go_wp2
    go_ret2
    exact ⟨_, rfl, HL.out, K.out.below⟩
  rw [if_pos hi] at hs
  by_cases hi0 : 0 ≤ i
  rotate_left
  · rw [if_neg hi0] at hs
    cases hs
  rw [if_pos hi0] at hs
  by_cases hlim : acc.length < 1000000
  rotate_left
  · rw [if_neg hlim] at hs
    cases hs
  rw [if_pos hlim] at hs
  have HX := Aside0.mk hs
  have HLIM := Aside0.mk hlim
  obtain ⟨ad, e0, hx⟩ := Kd.at_int (Kd.C_below HR.out K.out.below) i hi0 hi
  subst e0
  have hb0 : decide (i < (D.length : Int)) = true := decide_eq_true hi
  have p0 : (0 ≤ i) = True := eq_true hi0
  have p1 : (i < (D.length : Int)) = True := eq_true hi
  clear hs hi hi0 hlim
  obtain ⟨A6, c6, rfl⟩ := Kd.R_slice HL.out
  go_wp2_with (first
    | ((with_reducible refine gate_builtin (b := .append) (xs := #[.tmp 47, .tmp 53]) rfl ?_); at_builtin; refine Kd.R_append (Kd.int .i64) (w0 := w) w.heap.size rfl (.tmp 47) (.tmp 53) 24 3 (.int .i64 0) 8 rfl Try.underlying24 info3 rfl (by decide) (by omega) (.slice A6 acc.length c6) acc (rd D i) [.int .i64 (rd D i)] (fun _ => True) (fun _ => False) rfl rfl ?aP (fun _ hk => hk.elim) ?aF ?aO ?aB ?aS ?aL ?_; (case aP => exact rfl); (case aF => exact fun k hk => trivial); (case aO => exact HL.out); (case aB => exact K.out.below); (case aS => exact below_size K.out.below); (case aL => have := HLIM.out; omega); intro v2 w7 ho hb hg hat; have K5 := Aside0.mk (K.out.grown1 HL.out hg hb (by decide)); have HL5 := Aside0.mk ho; clear K HL ho hb hg hat f4 hx; have K := K5; have HL := HL5; clear K5 HL5)
    | ((with_reducible refine gate_dst (N := 44) rfl ?_); refine load_ev rfl 26 (.tmp 2) rfl rfl (K.out.get 0 rfl) Try.underlying26 rfl ?_)
    | (go_at_call 65; (with_reducible refine (plane_width.calls x0 y0 x1 y1 (some ad) c D (x1 - x0) _ (Kd.C_below HR.out K.out.below) HC.out HW.out).mono ?_); rintro _ w9 ⟨rfl, b⟩; have HL' := Aside0.mk (Kd.R_below HL.out b); clear HL; have HL := HL'; clear HL'; have K' := Aside0.mk (K.out.call (below_size K.out.below) b); clear K; have K := K'; clear K'; clear b))
  go_roundg kk
  case measure => omega
  case rel => exact ⟨_, _, rfl, HX, K, HL⟩
end Go.Proofs.Ytcnpekpgghppnaa.Q
