/- HeadsegTiles: comments and tile-parts have the defined segments and errors. No condition beside the statement's own. -/
import Derived.Test.YtihfopblmjgfaaaQ26
import Derived.Test.YtihfopblmjgfaaaPureTile
namespace Go.Proofs.Ytihfopblmjgfaaa.Pure
open Go.RowKit Go.Proofs.Ytihfopblmjgfaaa.Q Go.Proofs.YtihfopblmjgfaaaW.PrintWords
set_option linter.unusedVariables false
theorem comment_eq (a : ByteArray) (h : a.size ≤ 70000) : headseg_Comment.f a = some (if (a.size : Int) > 65533 then (0, [], 5) else (65444, strBytes a, 0)) := by
  unfold headseg_Comment.f
  rw [if_pos (by omega)]
theorem strBytes_length (a : ByteArray) : (strBytes a).length = a.size := by simp [strBytes]
theorem HeadsegTiles (a0 : ByteArray) (a1_0 : Int) (a1_1 : Int) (a1_2 : Int) (a1_3 : Int) (a2_0 : Int) (l2_1 : List (Int)) (w0 : a0.size ≤ 140737488351232) (w1_0 : (Lit.int .i64 a1_0).wf = true) (w1_1 : (Lit.int .i64 a1_1).wf = true) (w1_2 : (Lit.int .i64 a1_2).wf = true) (w1_3 : (Lit.int .i64 a1_3).wf = true) (w2_0 : (Lit.int .i64 a2_0).wf = true) (y2_1 : l2_1.length * 1 ≤ 140737488351232) (w2_1 : ∀ x ∈ l2_1, (Lit.int .u8 x).wf = true) : ∃ k, waveletlaw29_HeadsegTiles.f k a0 a1_0 a1_1 a1_2 a1_3 a2_0 l2_1 = some true := by
  obtain ⟨ka, hka⟩ := awake_holds
  have hA : ∀ k, ka ≤ k → waveletlaw29_awake.f k = some true := fun k hk => at_rounds waveletlaw29_awake.mono hk hka
  refine ⟨ka + 80000 + 1, ?_⟩
  have hAw := hA (ka + 80000) (by omega)
  unfold waveletlaw29_HeadsegTiles.f
  by_cases h1 : (a0.size : Int) > 70000
  · rw [if_pos h1, waveletlaw29_HeadsegTiles.j0, if_pos rfl, hAw]
    rfl
  rw [if_neg h1]
  simp only [waveletlaw29_long.f, Option.bind_some]
  by_cases h2 : (l2_1.length : Int) > 70000
  · rw [decide_eq_true h2, waveletlaw29_HeadsegTiles.j0, if_pos rfl, hAw]
    rfl
  rw [decide_eq_false h2, waveletlaw29_HeadsegTiles.j0, if_neg (by simp), comment_eq a0 (by omega), show waveletref29_Comment.f a0 = _ from comment_eq a0 (by omega)]
  simp only [Option.bind_some]
  rw [show waveletref29_ParseComment.f a2_0 l2_1 = headseg_ParseComment.f a2_0 l2_1 from rfl]
  have hPC : ∃ r, headseg_ParseComment.f a2_0 l2_1 = some r := by
    unfold headseg_ParseComment.f
    repeat' split
    all_goals exact ⟨_, rfl⟩
  obtain ⟨rc, hrc⟩ := hPC
  rw [hrc]
  simp only [Option.bind_some]
  have hcl : (if (a0.size : Int) > 65533 then ((0, [], 5) : Int × List Int × Int) else (65444, strBytes a0, 0)).2.1.length ≤ 70000 := by
    split
    · simp
    · rw [strBytes_length]; omega
  generalize (if (a0.size : Int) > 65533 then ((0, [], 5) : Int × List Int × Int) else (65444, strBytes a0, 0)) = cc at hcl
  have hs := sameSegment_refl cc.1 cc.2.1 (by omega) (ka + 80000 - cc.2.1.length - 1)
  rw [show ka + 80000 - cc.2.1.length - 1 + cc.2.1.length + 1 = ka + 80000 by omega] at hs
  rw [hs]
  simp only [Option.bind_some, if_true, bne_self_eq_false]
  rw [show ka + 80000 = (ka + 79999) + 1 from rfl, waveletlaw29_HeadsegTiles.j1, if_neg (by simp)]
  have ht := tile_eq a1_0 a1_1 a1_2 a1_3 (ka + 79979)
  have hrt := rtile_eq a1_0 a1_1 a1_2 a1_3 (ka + 79979)
  have hp := ptile_eq a2_0 l2_1 (by omega) (ka + 79993)
  have hrp := rptile_eq a2_0 l2_1 w2_1 (by omega) (ka + 79993)
  rw [show ka + 79979 + 20 = ka + 79999 from rfl] at ht hrt
  rw [show ka + 79993 + 6 = ka + 79999 from rfl] at hp hrp
  rw [ht, hrt, hp, hrp]
  simp only [Option.bind_some]
  have hl := TileF_length a1_0 a1_1 a1_2 a1_3
  have hs2 := sameSegment_refl (TileF a1_0 a1_1 a1_2 a1_3).1 (TileF a1_0 a1_1 a1_2 a1_3).2.1 (by omega) (ka + 79999 - (TileF a1_0 a1_1 a1_2 a1_3).2.1.length - 1)
  rw [show ka + 79999 - (TileF a1_0 a1_1 a1_2 a1_3).2.1.length - 1 + (TileF a1_0 a1_1 a1_2 a1_3).2.1.length + 1 = ka + 79999 by omega] at hs2
  rw [hs2]
  simp only [Option.bind_some, if_true]
  rw [hA (ka + 79999) (by omega)]
  rfl
end Go.Proofs.Ytihfopblmjgfaaa.Pure
