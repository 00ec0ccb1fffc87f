/-
  No cell of these rows narrows 'for every input' (looked for: loops, veiled, ifaces, maps, wideKeys, modest, calm, conditions, laid).
  DERIVED. THE GIVEN ROWS OF THIS SEAT. 10 by the template 'for every input the law returns true; each argument reads behind the call as it read before'; 0 by the template 'total and deterministic' (their statements: YtibaclnknialbaaTotals.lean).
  GIVEN WITH THE SEED: the statements are not yours to turn. If you find one false, say at which input.
  Laid BY PROGRAM, IN A SANDBOX (cutbox-rows.mjs): the forced cells as the released guide's own fill.sh prints them over the translation 010ffbb9e2fc17bd… (all of the seat's roots in one cut). By AI agents, Wed Nov 11 2026. No macro, syntax, notation, axiom, sorry.
-/
import Derived.Test.YtibaclnknialbaaChecked
import GoSem.Claim
import GoSem.ClaimJoined
import GoSem.ClaimMapViews
import Derived.JoinedTies
import Derived.KernelRfl
namespace Go.Proofs.Ytibaclnknialbaa
/- THE CELL 'sum', in the pinned program and in every row, IS THE sha256 OF THE DUMP (.gsa) THAT YtibaclnknialbaaProg.lean LOADS. Nothing in Lean hashes anything: it is a label: what it is worth is what the hold of that sum in a sandbox is worth. -/
noncomputable def Try.pinned : Pinned := { name := "ytibaclnknialbaa", sum := "010ffbb9e2fc17bd2277bbb54230b8107226b32beef8cff5f4aeb358d1b7d3cc", checked := Try.checked }
namespace Rows
def none {H : Type} : Left H := { results := [], args := [] }

/-- 'waveletlaw01.RectDivides': WHATEVER THE INPUT: true; the input reads as it did. -/
def rectDividesSpec : ChangeSpec := { name := "rectDivides", fn := fun _ => fun
  | [d1, d2] => { results := [.lit (.bool true)], args := [d1, d2] }
  | _ => none }
def rectDividesRow : OpenClaim := { program := "ytibaclnknialbaa", sum := "010ffbb9e2fc17bd2277bbb54230b8107226b32beef8cff5f4aeb358d1b7d3cc", func := "wavelet/waveletlaw01.RectDivides", spec := "rectDivides", apart := false }
def RectDividesSaid : Prop := rectDividesRow.holds Try.pinned (OpenSpec.ofChange rectDividesSpec)

/-- ITS FALSE NEIGHBOUR: 'it returns false'. Refute it at one input. -/
def rectDividesWrong : ChangeSpec := { name := "rectDivides", fn := fun _ => fun
  | [d1, d2] => { results := [.lit (.bool false)], args := [d1, d2] }
  | _ => none }
def RectDividesWrongFalsely : Prop := rectDividesRow.holds Try.pinned (OpenSpec.ofChange rectDividesWrong)

/-- 'waveletlaw01.RectJudges': WHATEVER THE INPUT: true; the input reads as it did. -/
def rectJudgesSpec : ChangeSpec := { name := "rectJudges", fn := fun _ => fun
  | [d1, d2] => { results := [.lit (.bool true)], args := [d1, d2] }
  | _ => none }
def rectJudgesRow : OpenClaim := { program := "ytibaclnknialbaa", sum := "010ffbb9e2fc17bd2277bbb54230b8107226b32beef8cff5f4aeb358d1b7d3cc", func := "wavelet/waveletlaw01.RectJudges", spec := "rectJudges", apart := false }
def RectJudgesSaid : Prop := rectJudgesRow.holds Try.pinned (OpenSpec.ofChange rectJudgesSpec)

/-- ITS FALSE NEIGHBOUR: 'it returns false'. Refute it at one input. -/
def rectJudgesWrong : ChangeSpec := { name := "rectJudges", fn := fun _ => fun
  | [d1, d2] => { results := [.lit (.bool false)], args := [d1, d2] }
  | _ => none }
def RectJudgesWrongFalsely : Prop := rectJudgesRow.holds Try.pinned (OpenSpec.ofChange rectJudgesWrong)

/-- 'waveletlaw01.RectRelates': WHATEVER THE INPUT: true; the input reads as it did. -/
def rectRelatesSpec : ChangeSpec := { name := "rectRelates", fn := fun _ => fun
  | [d1, d2] => { results := [.lit (.bool true)], args := [d1, d2] }
  | _ => none }
def rectRelatesRow : OpenClaim := { program := "ytibaclnknialbaa", sum := "010ffbb9e2fc17bd2277bbb54230b8107226b32beef8cff5f4aeb358d1b7d3cc", func := "wavelet/waveletlaw01.RectRelates", spec := "rectRelates", apart := false }
def RectRelatesSaid : Prop := rectRelatesRow.holds Try.pinned (OpenSpec.ofChange rectRelatesSpec)

/-- ITS FALSE NEIGHBOUR: 'it returns false'. Refute it at one input. -/
def rectRelatesWrong : ChangeSpec := { name := "rectRelates", fn := fun _ => fun
  | [d1, d2] => { results := [.lit (.bool false)], args := [d1, d2] }
  | _ => none }
def RectRelatesWrongFalsely : Prop := rectRelatesRow.holds Try.pinned (OpenSpec.ofChange rectRelatesWrong)

/-- 'waveletlaw01.RectBounds': WHATEVER THE INPUT: true; the input reads as it did. -/
def rectBoundsSpec : ChangeSpec := { name := "rectBounds", fn := fun _ => fun
  | [d] => { results := [.lit (.bool true)], args := [d] }
  | _ => none }
def rectBoundsRow : OpenClaim := { program := "ytibaclnknialbaa", sum := "010ffbb9e2fc17bd2277bbb54230b8107226b32beef8cff5f4aeb358d1b7d3cc", func := "wavelet/waveletlaw01.RectBounds", spec := "rectBounds", apart := false }
def RectBoundsSaid : Prop := rectBoundsRow.holds Try.pinned (OpenSpec.ofChange rectBoundsSpec)

/-- ITS FALSE NEIGHBOUR: 'it returns false'. Refute it at one input. -/
def rectBoundsWrong : ChangeSpec := { name := "rectBounds", fn := fun _ => fun
  | [d] => { results := [.lit (.bool false)], args := [d] }
  | _ => none }
def RectBoundsWrongFalsely : Prop := rectBoundsRow.holds Try.pinned (OpenSpec.ofChange rectBoundsWrong)

/-- 'waveletlaw01.RectReduces': WHATEVER THE INPUT: true; the input reads as it did. -/
def rectReducesSpec : ChangeSpec := { name := "rectReduces", fn := fun _ => fun
  | [d1, d2, d3] => { results := [.lit (.bool true)], args := [d1, d2, d3] }
  | _ => none }
def rectReducesRow : OpenClaim := { program := "ytibaclnknialbaa", sum := "010ffbb9e2fc17bd2277bbb54230b8107226b32beef8cff5f4aeb358d1b7d3cc", func := "wavelet/waveletlaw01.RectReduces", spec := "rectReduces", apart := false }
def RectReducesSaid : Prop := rectReducesRow.holds Try.pinned (OpenSpec.ofChange rectReducesSpec)

/-- ITS FALSE NEIGHBOUR: 'it returns false'. Refute it at one input. -/
def rectReducesWrong : ChangeSpec := { name := "rectReduces", fn := fun _ => fun
  | [d1, d2, d3] => { results := [.lit (.bool false)], args := [d1, d2, d3] }
  | _ => none }
def RectReducesWrongFalsely : Prop := rectReducesRow.holds Try.pinned (OpenSpec.ofChange rectReducesWrong)

/-- 'waveletlaw01.RectCells': WHATEVER THE INPUT: true; the input reads as it did. -/
def rectCellsSpec : ChangeSpec := { name := "rectCells", fn := fun _ => fun
  | [d1, d2, d3] => { results := [.lit (.bool true)], args := [d1, d2, d3] }
  | _ => none }
def rectCellsRow : OpenClaim := { program := "ytibaclnknialbaa", sum := "010ffbb9e2fc17bd2277bbb54230b8107226b32beef8cff5f4aeb358d1b7d3cc", func := "wavelet/waveletlaw01.RectCells", spec := "rectCells", apart := false }
def RectCellsSaid : Prop := rectCellsRow.holds Try.pinned (OpenSpec.ofChange rectCellsSpec)

/-- ITS FALSE NEIGHBOUR: 'it returns false'. Refute it at one input. -/
def rectCellsWrong : ChangeSpec := { name := "rectCells", fn := fun _ => fun
  | [d1, d2, d3] => { results := [.lit (.bool false)], args := [d1, d2, d3] }
  | _ => none }
def RectCellsWrongFalsely : Prop := rectCellsRow.holds Try.pinned (OpenSpec.ofChange rectCellsWrong)

/-- 'waveletlaw01.RectCommon': WHATEVER THE INPUT: true; the input reads as it did. -/
def rectCommonSpec : ChangeSpec := { name := "rectCommon", fn := fun _ => fun
  | [d1, d2, d3] => { results := [.lit (.bool true)], args := [d1, d2, d3] }
  | _ => none }
def rectCommonRow : OpenClaim := { program := "ytibaclnknialbaa", sum := "010ffbb9e2fc17bd2277bbb54230b8107226b32beef8cff5f4aeb358d1b7d3cc", func := "wavelet/waveletlaw01.RectCommon", spec := "rectCommon", apart := false }
def RectCommonSaid : Prop := rectCommonRow.holds Try.pinned (OpenSpec.ofChange rectCommonSpec)

/-- ITS FALSE NEIGHBOUR: 'it returns false'. Refute it at one input. -/
def rectCommonWrong : ChangeSpec := { name := "rectCommon", fn := fun _ => fun
  | [d1, d2, d3] => { results := [.lit (.bool false)], args := [d1, d2, d3] }
  | _ => none }
def RectCommonWrongFalsely : Prop := rectCommonRow.holds Try.pinned (OpenSpec.ofChange rectCommonWrong)

/-- 'waveletlaw01.RectLeast': WHATEVER THE INPUT: true; the input reads as it did. -/
def rectLeastSpec : ChangeSpec := { name := "rectLeast", fn := fun _ => fun
  | [d1, d2, d3] => { results := [.lit (.bool true)], args := [d1, d2, d3] }
  | _ => none }
def rectLeastRow : OpenClaim := { program := "ytibaclnknialbaa", sum := "010ffbb9e2fc17bd2277bbb54230b8107226b32beef8cff5f4aeb358d1b7d3cc", func := "wavelet/waveletlaw01.RectLeast", spec := "rectLeast", apart := false }
def RectLeastSaid : Prop := rectLeastRow.holds Try.pinned (OpenSpec.ofChange rectLeastSpec)

/-- ITS FALSE NEIGHBOUR: 'it returns false'. Refute it at one input. -/
def rectLeastWrong : ChangeSpec := { name := "rectLeast", fn := fun _ => fun
  | [d1, d2, d3] => { results := [.lit (.bool false)], args := [d1, d2, d3] }
  | _ => none }
def RectLeastWrongFalsely : Prop := rectLeastRow.holds Try.pinned (OpenSpec.ofChange rectLeastWrong)

/-- 'waveletlaw01.RectSamples': WHATEVER THE INPUT: true; the input reads as it did. -/
def rectSamplesSpec : ChangeSpec := { name := "rectSamples", fn := fun _ => fun
  | [d1, d2, d3] => { results := [.lit (.bool true)], args := [d1, d2, d3] }
  | _ => none }
def rectSamplesRow : OpenClaim := { program := "ytibaclnknialbaa", sum := "010ffbb9e2fc17bd2277bbb54230b8107226b32beef8cff5f4aeb358d1b7d3cc", func := "wavelet/waveletlaw01.RectSamples", spec := "rectSamples", apart := false }
def RectSamplesSaid : Prop := rectSamplesRow.holds Try.pinned (OpenSpec.ofChange rectSamplesSpec)

/-- ITS FALSE NEIGHBOUR: 'it returns false'. Refute it at one input. -/
def rectSamplesWrong : ChangeSpec := { name := "rectSamples", fn := fun _ => fun
  | [d1, d2, d3] => { results := [.lit (.bool false)], args := [d1, d2, d3] }
  | _ => none }
def RectSamplesWrongFalsely : Prop := rectSamplesRow.holds Try.pinned (OpenSpec.ofChange rectSamplesWrong)

/-- 'waveletlaw01.RectTiling': WHATEVER THE INPUT: true; the input reads as it did. -/
def rectTilingSpec : ChangeSpec := { name := "rectTiling", fn := fun _ => fun
  | [d1, d2, d3] => { results := [.lit (.bool true)], args := [d1, d2, d3] }
  | _ => none }
def rectTilingRow : OpenClaim := { program := "ytibaclnknialbaa", sum := "010ffbb9e2fc17bd2277bbb54230b8107226b32beef8cff5f4aeb358d1b7d3cc", func := "wavelet/waveletlaw01.RectTiling", spec := "rectTiling", apart := false }
def RectTilingSaid : Prop := rectTilingRow.holds Try.pinned (OpenSpec.ofChange rectTilingSpec)

/-- ITS FALSE NEIGHBOUR: 'it returns false'. Refute it at one input. -/
def rectTilingWrong : ChangeSpec := { name := "rectTiling", fn := fun _ => fun
  | [d1, d2, d3] => { results := [.lit (.bool false)], args := [d1, d2, d3] }
  | _ => none }
def RectTilingWrongFalsely : Prop := rectTilingRow.holds Try.pinned (OpenSpec.ofChange rectTilingWrong)

/- THE SECOND FORM. 'bulk': how many values and letters a reading holds, each counted each time it is reached (what is shared counts as often as it is met; a slice's spare places count too). A statement '..UptoSaid' is the law's where the arguments, and the package variables that the reading takes, are together of bulk at most 1048576: NARROWER than '..Said'. Prove '..Said' where nothing that the law and all that it calls make is longer than what came in: it says more and counts as full. Else prove '..UptoSaid'. A law counts once. -/
mutual
def uptoBulk {H : Type} : DataW H → Nat
  | .lit (.string bytes) => bytes.length + 1
  | .lit _ => 1
  | .nil => 1
  | .ptr d => uptoBulk d + 1
  | .slice elems spare => uptoBulkAll elems + uptoBulkAll spare + 1
  | .agg parts => uptoBulkAll parts + 1
  | .iface _ d => uptoBulk d + 1
  | .map entries => uptoBulkEntries entries + 1
  | .held _ => 1
def uptoBulkAll {H : Type} : List (DataW H) → Nat
  | [] => 0
  | d :: r => uptoBulk d + uptoBulkAll r
def uptoBulkEntries {H : Type} : List (Lit × DataW H) → Nat
  | [] => 0
  | x :: r => uptoBulkEntry x + uptoBulkEntries r
def uptoBulkEntry {H : Type} : Lit × DataW H → Nat
  | (.string bytes, d) => bytes.length + uptoBulk d + 1
  | (_, d) => uptoBulk d + 1
 end
def uptoSmall : (H : Type) → List (DataW H) → Bool := fun _ ds => decide (uptoBulkAll ds ≤ 1048576)
def OpenSpec.upto (s : _root_.Go.ChangeSpec) : _root_.Go.OpenSpec := { _root_.Go.OpenSpec.ofChange s with cond := some uptoSmall }

/-- 'waveletlaw01.RectDivides', WHERE WHAT IT READS IS OF BULK AT MOST 1048576: true; the input reads as it did. -/
def rectDividesUptoRow : OpenClaim := { program := "ytibaclnknialbaa", sum := "010ffbb9e2fc17bd2277bbb54230b8107226b32beef8cff5f4aeb358d1b7d3cc", func := "wavelet/waveletlaw01.RectDivides", spec := "rectDivides", apart := false, narrowed := true }
def RectDividesUptoSaid : Prop := rectDividesUptoRow.holds Try.pinned (OpenSpec.upto rectDividesSpec)

/-- 'waveletlaw01.RectJudges', WHERE WHAT IT READS IS OF BULK AT MOST 1048576: true; the input reads as it did. -/
def rectJudgesUptoRow : OpenClaim := { program := "ytibaclnknialbaa", sum := "010ffbb9e2fc17bd2277bbb54230b8107226b32beef8cff5f4aeb358d1b7d3cc", func := "wavelet/waveletlaw01.RectJudges", spec := "rectJudges", apart := false, narrowed := true }
def RectJudgesUptoSaid : Prop := rectJudgesUptoRow.holds Try.pinned (OpenSpec.upto rectJudgesSpec)

/-- 'waveletlaw01.RectRelates', WHERE WHAT IT READS IS OF BULK AT MOST 1048576: true; the input reads as it did. -/
def rectRelatesUptoRow : OpenClaim := { program := "ytibaclnknialbaa", sum := "010ffbb9e2fc17bd2277bbb54230b8107226b32beef8cff5f4aeb358d1b7d3cc", func := "wavelet/waveletlaw01.RectRelates", spec := "rectRelates", apart := false, narrowed := true }
def RectRelatesUptoSaid : Prop := rectRelatesUptoRow.holds Try.pinned (OpenSpec.upto rectRelatesSpec)

/-- 'waveletlaw01.RectBounds', WHERE WHAT IT READS IS OF BULK AT MOST 1048576: true; the input reads as it did. -/
def rectBoundsUptoRow : OpenClaim := { program := "ytibaclnknialbaa", sum := "010ffbb9e2fc17bd2277bbb54230b8107226b32beef8cff5f4aeb358d1b7d3cc", func := "wavelet/waveletlaw01.RectBounds", spec := "rectBounds", apart := false, narrowed := true }
def RectBoundsUptoSaid : Prop := rectBoundsUptoRow.holds Try.pinned (OpenSpec.upto rectBoundsSpec)

/-- 'waveletlaw01.RectReduces', WHERE WHAT IT READS IS OF BULK AT MOST 1048576: true; the input reads as it did. -/
def rectReducesUptoRow : OpenClaim := { program := "ytibaclnknialbaa", sum := "010ffbb9e2fc17bd2277bbb54230b8107226b32beef8cff5f4aeb358d1b7d3cc", func := "wavelet/waveletlaw01.RectReduces", spec := "rectReduces", apart := false, narrowed := true }
def RectReducesUptoSaid : Prop := rectReducesUptoRow.holds Try.pinned (OpenSpec.upto rectReducesSpec)

/-- 'waveletlaw01.RectCells', WHERE WHAT IT READS IS OF BULK AT MOST 1048576: true; the input reads as it did. -/
def rectCellsUptoRow : OpenClaim := { program := "ytibaclnknialbaa", sum := "010ffbb9e2fc17bd2277bbb54230b8107226b32beef8cff5f4aeb358d1b7d3cc", func := "wavelet/waveletlaw01.RectCells", spec := "rectCells", apart := false, narrowed := true }
def RectCellsUptoSaid : Prop := rectCellsUptoRow.holds Try.pinned (OpenSpec.upto rectCellsSpec)

/-- 'waveletlaw01.RectCommon', WHERE WHAT IT READS IS OF BULK AT MOST 1048576: true; the input reads as it did. -/
def rectCommonUptoRow : OpenClaim := { program := "ytibaclnknialbaa", sum := "010ffbb9e2fc17bd2277bbb54230b8107226b32beef8cff5f4aeb358d1b7d3cc", func := "wavelet/waveletlaw01.RectCommon", spec := "rectCommon", apart := false, narrowed := true }
def RectCommonUptoSaid : Prop := rectCommonUptoRow.holds Try.pinned (OpenSpec.upto rectCommonSpec)

/-- 'waveletlaw01.RectLeast', WHERE WHAT IT READS IS OF BULK AT MOST 1048576: true; the input reads as it did. -/
def rectLeastUptoRow : OpenClaim := { program := "ytibaclnknialbaa", sum := "010ffbb9e2fc17bd2277bbb54230b8107226b32beef8cff5f4aeb358d1b7d3cc", func := "wavelet/waveletlaw01.RectLeast", spec := "rectLeast", apart := false, narrowed := true }
def RectLeastUptoSaid : Prop := rectLeastUptoRow.holds Try.pinned (OpenSpec.upto rectLeastSpec)

/-- 'waveletlaw01.RectSamples', WHERE WHAT IT READS IS OF BULK AT MOST 1048576: true; the input reads as it did. -/
def rectSamplesUptoRow : OpenClaim := { program := "ytibaclnknialbaa", sum := "010ffbb9e2fc17bd2277bbb54230b8107226b32beef8cff5f4aeb358d1b7d3cc", func := "wavelet/waveletlaw01.RectSamples", spec := "rectSamples", apart := false, narrowed := true }
def RectSamplesUptoSaid : Prop := rectSamplesUptoRow.holds Try.pinned (OpenSpec.upto rectSamplesSpec)

/-- 'waveletlaw01.RectTiling', WHERE WHAT IT READS IS OF BULK AT MOST 1048576: true; the input reads as it did. -/
def rectTilingUptoRow : OpenClaim := { program := "ytibaclnknialbaa", sum := "010ffbb9e2fc17bd2277bbb54230b8107226b32beef8cff5f4aeb358d1b7d3cc", func := "wavelet/waveletlaw01.RectTiling", spec := "rectTiling", apart := false, narrowed := true }
def RectTilingUptoSaid : Prop := rectTilingUptoRow.holds Try.pinned (OpenSpec.upto rectTilingSpec)

end Rows
end Go.Proofs.Ytibaclnknialbaa
