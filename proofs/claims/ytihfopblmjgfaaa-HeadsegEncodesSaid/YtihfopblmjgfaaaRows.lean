/-
  No cell of these rows narrows 'for every input' (looked for: loops, veiled, ifaces, maps, wideKeys, modest, calm, conditions, laid).
  DERIVED. THE GIVEN ROWS OF THIS SEAT. 8 by the template 'for every input the law returns true; each argument reads behind the call as it read before'; 0 by the template 'total and deterministic' (their statements: YtihfopblmjgfaaaTotals.lean).
  GIVEN WITH THE SEED: the statements are not yours to turn. If you find one false, say at which input.
  Laid BY PROGRAM, IN A SANDBOX (cutbox-rows.mjs): the forced cells as the released guide's own fill.sh prints them over the translation 1a064792a51e6ea6… (all of the seat's roots in one cut). By AI agents, Wed Nov 11 2026. No macro, syntax, notation, axiom, sorry.
-/
import Derived.Test.YtihfopblmjgfaaaChecked
import GoSem.Claim
import GoSem.ClaimJoined
import GoSem.ClaimMapViews
import Derived.JoinedTies
import Derived.KernelRfl
namespace Go.Proofs.Ytihfopblmjgfaaa
/- THE CELL 'sum', in the pinned program and in every row, IS THE sha256 OF THE DUMP (.gsa) THAT YtihfopblmjgfaaaProg.lean LOADS. Nothing in Lean hashes anything: it is a label: what it is worth is what the hold of that sum in a sandbox is worth. -/
noncomputable def Try.pinned : Pinned := { name := "ytihfopblmjgfaaa", sum := "1a064792a51e6ea60e2a060079039e3a73c2cb79ac7748ff4d39855b977f3cc3", checked := Try.checked }
namespace Rows
def none {H : Type} : Left H := { results := [], args := [] }

/-- 'waveletlaw29.HeadsegTiles': WHATEVER THE INPUT: true; the input reads as it did. -/
def headsegTilesSpec : ChangeSpec := { name := "headsegTiles", fn := fun _ => fun
  | [d1, d2, d3] => { results := [.lit (.bool true)], args := [d1, d2, d3] }
  | _ => none }
def headsegTilesRow : OpenClaim := { program := "ytihfopblmjgfaaa", sum := "1a064792a51e6ea60e2a060079039e3a73c2cb79ac7748ff4d39855b977f3cc3", func := "wavelet/waveletlaw29.HeadsegTiles", spec := "headsegTiles", unfollowed := true, recurses := true, apart := false }
def HeadsegTilesSaid : Prop := headsegTilesRow.holds Try.pinned (OpenSpec.ofChange headsegTilesSpec)

/-- ITS FALSE NEIGHBOUR: 'it returns false'. Refute it at one input. -/
def headsegTilesWrong : ChangeSpec := { name := "headsegTiles", fn := fun _ => fun
  | [d1, d2, d3] => { results := [.lit (.bool false)], args := [d1, d2, d3] }
  | _ => none }
def HeadsegTilesWrongFalsely : Prop := headsegTilesRow.holds Try.pinned (OpenSpec.ofChange headsegTilesWrong)

/-- 'waveletlaw29.HeadsegLengths': WHATEVER THE INPUT: true; the input reads as it did. -/
def headsegLengthsSpec : ChangeSpec := { name := "headsegLengths", fn := fun _ => fun
  | [d1, d2, d3] => { results := [.lit (.bool true)], args := [d1, d2, d3] }
  | _ => none }
def headsegLengthsRow : OpenClaim := { program := "ytihfopblmjgfaaa", sum := "1a064792a51e6ea60e2a060079039e3a73c2cb79ac7748ff4d39855b977f3cc3", func := "wavelet/waveletlaw29.HeadsegLengths", spec := "headsegLengths", unfollowed := true, recurses := true, apart := false }
def HeadsegLengthsSaid : Prop := headsegLengthsRow.holds Try.pinned (OpenSpec.ofChange headsegLengthsSpec)

/-- ITS FALSE NEIGHBOUR: 'it returns false'. Refute it at one input. -/
def headsegLengthsWrong : ChangeSpec := { name := "headsegLengths", fn := fun _ => fun
  | [d1, d2, d3] => { results := [.lit (.bool false)], args := [d1, d2, d3] }
  | _ => none }
def HeadsegLengthsWrongFalsely : Prop := headsegLengthsRow.holds Try.pinned (OpenSpec.ofChange headsegLengthsWrong)

/-- 'waveletlaw29.HeadsegQuants': WHATEVER THE INPUT: true; the input reads as it did. -/
def headsegQuantsSpec : ChangeSpec := { name := "headsegQuants", fn := fun _ => fun
  | [d1, d2] => { results := [.lit (.bool true)], args := [d1, d2] }
  | _ => none }
def headsegQuantsRow : OpenClaim := { program := "ytihfopblmjgfaaa", sum := "1a064792a51e6ea60e2a060079039e3a73c2cb79ac7748ff4d39855b977f3cc3", func := "wavelet/waveletlaw29.HeadsegQuants", spec := "headsegQuants", unfollowed := true, recurses := true, apart := false }
def HeadsegQuantsSaid : Prop := headsegQuantsRow.holds Try.pinned (OpenSpec.ofChange headsegQuantsSpec)

/-- ITS FALSE NEIGHBOUR: 'it returns false'. Refute it at one input. -/
def headsegQuantsWrong : ChangeSpec := { name := "headsegQuants", fn := fun _ => fun
  | [d1, d2] => { results := [.lit (.bool false)], args := [d1, d2] }
  | _ => none }
def HeadsegQuantsWrongFalsely : Prop := headsegQuantsRow.holds Try.pinned (OpenSpec.ofChange headsegQuantsWrong)

/-- 'waveletlaw29.HeadsegTexts': WHATEVER THE INPUT: true; the input reads as it did. -/
def headsegTextsSpec : ChangeSpec := { name := "headsegTexts", fn := fun _ => fun
  | [d1, d2, d3] => { results := [.lit (.bool true)], args := [d1, d2, d3] }
  | _ => none }
def headsegTextsRow : OpenClaim := { program := "ytihfopblmjgfaaa", sum := "1a064792a51e6ea60e2a060079039e3a73c2cb79ac7748ff4d39855b977f3cc3", func := "wavelet/waveletlaw29.HeadsegTexts", spec := "headsegTexts", unfollowed := true, recurses := true, apart := false }
def HeadsegTextsSaid : Prop := headsegTextsRow.holds Try.pinned (OpenSpec.ofChange headsegTextsSpec)

/-- ITS FALSE NEIGHBOUR: 'it returns false'. Refute it at one input. -/
def headsegTextsWrong : ChangeSpec := { name := "headsegTexts", fn := fun _ => fun
  | [d1, d2, d3] => { results := [.lit (.bool false)], args := [d1, d2, d3] }
  | _ => none }
def HeadsegTextsWrongFalsely : Prop := headsegTextsRow.holds Try.pinned (OpenSpec.ofChange headsegTextsWrong)

/-- 'waveletlaw29.HeadsegCodings': WHATEVER THE INPUT: true; the input reads as it did. -/
def headsegCodingsSpec : ChangeSpec := { name := "headsegCodings", fn := fun _ => fun
  | [d1, d2] => { results := [.lit (.bool true)], args := [d1, d2] }
  | _ => none }
def headsegCodingsRow : OpenClaim := { program := "ytihfopblmjgfaaa", sum := "1a064792a51e6ea60e2a060079039e3a73c2cb79ac7748ff4d39855b977f3cc3", func := "wavelet/waveletlaw29.HeadsegCodings", spec := "headsegCodings", unfollowed := true, recurses := true, apart := false }
def HeadsegCodingsSaid : Prop := headsegCodingsRow.holds Try.pinned (OpenSpec.ofChange headsegCodingsSpec)

/-- ITS FALSE NEIGHBOUR: 'it returns false'. Refute it at one input. -/
def headsegCodingsWrong : ChangeSpec := { name := "headsegCodings", fn := fun _ => fun
  | [d1, d2] => { results := [.lit (.bool false)], args := [d1, d2] }
  | _ => none }
def HeadsegCodingsWrongFalsely : Prop := headsegCodingsRow.holds Try.pinned (OpenSpec.ofChange headsegCodingsWrong)

/-- 'waveletlaw29.HeadsegSizes': WHATEVER THE INPUT: true; the input reads as it did. -/
def headsegSizesSpec : ChangeSpec := { name := "headsegSizes", fn := fun _ => fun
  | [d1, d2] => { results := [.lit (.bool true)], args := [d1, d2] }
  | _ => none }
def headsegSizesRow : OpenClaim := { program := "ytihfopblmjgfaaa", sum := "1a064792a51e6ea60e2a060079039e3a73c2cb79ac7748ff4d39855b977f3cc3", func := "wavelet/waveletlaw29.HeadsegSizes", spec := "headsegSizes", unfollowed := true, recurses := true, apart := false }
def HeadsegSizesSaid : Prop := headsegSizesRow.holds Try.pinned (OpenSpec.ofChange headsegSizesSpec)

/-- ITS FALSE NEIGHBOUR: 'it returns false'. Refute it at one input. -/
def headsegSizesWrong : ChangeSpec := { name := "headsegSizes", fn := fun _ => fun
  | [d1, d2] => { results := [.lit (.bool false)], args := [d1, d2] }
  | _ => none }
def HeadsegSizesWrongFalsely : Prop := headsegSizesRow.holds Try.pinned (OpenSpec.ofChange headsegSizesWrong)

/-- 'waveletlaw29.HeadsegRestores': WHATEVER THE INPUT: true; the input reads as it did. -/
def headsegRestoresSpec : ChangeSpec := { name := "headsegRestores", fn := fun _ => fun
  | [d1, d2, d3] => { results := [.lit (.bool true)], args := [d1, d2, d3] }
  | _ => none }
def headsegRestoresRow : OpenClaim := { program := "ytihfopblmjgfaaa", sum := "1a064792a51e6ea60e2a060079039e3a73c2cb79ac7748ff4d39855b977f3cc3", func := "wavelet/waveletlaw29.HeadsegRestores", spec := "headsegRestores", unfollowed := true, recurses := true, apart := false }
def HeadsegRestoresSaid : Prop := headsegRestoresRow.holds Try.pinned (OpenSpec.ofChange headsegRestoresSpec)

/-- ITS FALSE NEIGHBOUR: 'it returns false'. Refute it at one input. -/
def headsegRestoresWrong : ChangeSpec := { name := "headsegRestores", fn := fun _ => fun
  | [d1, d2, d3] => { results := [.lit (.bool false)], args := [d1, d2, d3] }
  | _ => none }
def HeadsegRestoresWrongFalsely : Prop := headsegRestoresRow.holds Try.pinned (OpenSpec.ofChange headsegRestoresWrong)

/-- 'waveletlaw29.HeadsegEncodes': WHATEVER THE INPUT: true; the input reads as it did. -/
def headsegEncodesSpec : ChangeSpec := { name := "headsegEncodes", fn := fun _ => fun
  | [d] => { results := [.lit (.bool true)], args := [d] }
  | _ => none }
def headsegEncodesRow : OpenClaim := { program := "ytihfopblmjgfaaa", sum := "1a064792a51e6ea60e2a060079039e3a73c2cb79ac7748ff4d39855b977f3cc3", func := "wavelet/waveletlaw29.HeadsegEncodes", spec := "headsegEncodes", unfollowed := true, recurses := true, apart := false }
def HeadsegEncodesSaid : Prop := headsegEncodesRow.holds Try.pinned (OpenSpec.ofChange headsegEncodesSpec)

/-- ITS FALSE NEIGHBOUR: 'it returns false'. Refute it at one input. -/
def headsegEncodesWrong : ChangeSpec := { name := "headsegEncodes", fn := fun _ => fun
  | [d] => { results := [.lit (.bool false)], args := [d] }
  | _ => none }
def HeadsegEncodesWrongFalsely : Prop := headsegEncodesRow.holds Try.pinned (OpenSpec.ofChange headsegEncodesWrong)

/- THE SECOND FORM. 'bulk': how many values and letters a reading holds, each counted each time it is reached (what is shared counts as often as it is met; a slice's spare places count too). A statement '..UptoSaid' is the law's where the arguments, and the package variables that the reading takes, are together of bulk at most 1048576: NARROWER than '..Said'. Prove '..Said' where nothing that the law and all that it calls make is longer than what came in: it says more and counts as full. Else prove '..UptoSaid'. A law counts once. -/
mutual
def uptoBulk {H : Type} : DataW H → Nat
  | .lit (.string bytes) => bytes.length + 1
  | .lit _ => 1
  | .nil => 1
  | .ptr d => uptoBulk d + 1
  | .slice elems spare => uptoBulkAll elems + uptoBulkAll spare + 1
  | .agg parts => uptoBulkAll parts + 1
  | .iface _ d => uptoBulk d + 1
  | .map entries => uptoBulkEntries entries + 1
  | .held _ => 1
def uptoBulkAll {H : Type} : List (DataW H) → Nat
  | [] => 0
  | d :: r => uptoBulk d + uptoBulkAll r
def uptoBulkEntries {H : Type} : List (Lit × DataW H) → Nat
  | [] => 0
  | x :: r => uptoBulkEntry x + uptoBulkEntries r
def uptoBulkEntry {H : Type} : Lit × DataW H → Nat
  | (.string bytes, d) => bytes.length + uptoBulk d + 1
  | (_, d) => uptoBulk d + 1
 end
def uptoSmall : (H : Type) → List (DataW H) → Bool := fun _ ds => decide (uptoBulkAll ds ≤ 1048576)
def OpenSpec.upto (s : _root_.Go.ChangeSpec) : _root_.Go.OpenSpec := { _root_.Go.OpenSpec.ofChange s with cond := some uptoSmall }

/-- 'waveletlaw29.HeadsegTiles', WHERE WHAT IT READS IS OF BULK AT MOST 1048576: true; the input reads as it did. -/
def headsegTilesUptoRow : OpenClaim := { program := "ytihfopblmjgfaaa", sum := "1a064792a51e6ea60e2a060079039e3a73c2cb79ac7748ff4d39855b977f3cc3", func := "wavelet/waveletlaw29.HeadsegTiles", spec := "headsegTiles", unfollowed := true, recurses := true, apart := false, narrowed := true }
def HeadsegTilesUptoSaid : Prop := headsegTilesUptoRow.holds Try.pinned (OpenSpec.upto headsegTilesSpec)

/-- 'waveletlaw29.HeadsegLengths', WHERE WHAT IT READS IS OF BULK AT MOST 1048576: true; the input reads as it did. -/
def headsegLengthsUptoRow : OpenClaim := { program := "ytihfopblmjgfaaa", sum := "1a064792a51e6ea60e2a060079039e3a73c2cb79ac7748ff4d39855b977f3cc3", func := "wavelet/waveletlaw29.HeadsegLengths", spec := "headsegLengths", unfollowed := true, recurses := true, apart := false, narrowed := true }
def HeadsegLengthsUptoSaid : Prop := headsegLengthsUptoRow.holds Try.pinned (OpenSpec.upto headsegLengthsSpec)

/-- 'waveletlaw29.HeadsegQuants', WHERE WHAT IT READS IS OF BULK AT MOST 1048576: true; the input reads as it did. -/
def headsegQuantsUptoRow : OpenClaim := { program := "ytihfopblmjgfaaa", sum := "1a064792a51e6ea60e2a060079039e3a73c2cb79ac7748ff4d39855b977f3cc3", func := "wavelet/waveletlaw29.HeadsegQuants", spec := "headsegQuants", unfollowed := true, recurses := true, apart := false, narrowed := true }
def HeadsegQuantsUptoSaid : Prop := headsegQuantsUptoRow.holds Try.pinned (OpenSpec.upto headsegQuantsSpec)

/-- 'waveletlaw29.HeadsegTexts', WHERE WHAT IT READS IS OF BULK AT MOST 1048576: true; the input reads as it did. -/
def headsegTextsUptoRow : OpenClaim := { program := "ytihfopblmjgfaaa", sum := "1a064792a51e6ea60e2a060079039e3a73c2cb79ac7748ff4d39855b977f3cc3", func := "wavelet/waveletlaw29.HeadsegTexts", spec := "headsegTexts", unfollowed := true, recurses := true, apart := false, narrowed := true }
def HeadsegTextsUptoSaid : Prop := headsegTextsUptoRow.holds Try.pinned (OpenSpec.upto headsegTextsSpec)

/-- 'waveletlaw29.HeadsegCodings', WHERE WHAT IT READS IS OF BULK AT MOST 1048576: true; the input reads as it did. -/
def headsegCodingsUptoRow : OpenClaim := { program := "ytihfopblmjgfaaa", sum := "1a064792a51e6ea60e2a060079039e3a73c2cb79ac7748ff4d39855b977f3cc3", func := "wavelet/waveletlaw29.HeadsegCodings", spec := "headsegCodings", unfollowed := true, recurses := true, apart := false, narrowed := true }
def HeadsegCodingsUptoSaid : Prop := headsegCodingsUptoRow.holds Try.pinned (OpenSpec.upto headsegCodingsSpec)

/-- 'waveletlaw29.HeadsegSizes', WHERE WHAT IT READS IS OF BULK AT MOST 1048576: true; the input reads as it did. -/
def headsegSizesUptoRow : OpenClaim := { program := "ytihfopblmjgfaaa", sum := "1a064792a51e6ea60e2a060079039e3a73c2cb79ac7748ff4d39855b977f3cc3", func := "wavelet/waveletlaw29.HeadsegSizes", spec := "headsegSizes", unfollowed := true, recurses := true, apart := false, narrowed := true }
def HeadsegSizesUptoSaid : Prop := headsegSizesUptoRow.holds Try.pinned (OpenSpec.upto headsegSizesSpec)

/-- 'waveletlaw29.HeadsegRestores', WHERE WHAT IT READS IS OF BULK AT MOST 1048576: true; the input reads as it did. -/
def headsegRestoresUptoRow : OpenClaim := { program := "ytihfopblmjgfaaa", sum := "1a064792a51e6ea60e2a060079039e3a73c2cb79ac7748ff4d39855b977f3cc3", func := "wavelet/waveletlaw29.HeadsegRestores", spec := "headsegRestores", unfollowed := true, recurses := true, apart := false, narrowed := true }
def HeadsegRestoresUptoSaid : Prop := headsegRestoresUptoRow.holds Try.pinned (OpenSpec.upto headsegRestoresSpec)

/-- 'waveletlaw29.HeadsegEncodes', WHERE WHAT IT READS IS OF BULK AT MOST 1048576: true; the input reads as it did. -/
def headsegEncodesUptoRow : OpenClaim := { program := "ytihfopblmjgfaaa", sum := "1a064792a51e6ea60e2a060079039e3a73c2cb79ac7748ff4d39855b977f3cc3", func := "wavelet/waveletlaw29.HeadsegEncodes", spec := "headsegEncodes", unfollowed := true, recurses := true, apart := false, narrowed := true }
def HeadsegEncodesUptoSaid : Prop := headsegEncodesUptoRow.holds Try.pinned (OpenSpec.upto headsegEncodesSpec)

end Rows
end Go.Proofs.Ytihfopblmjgfaaa
