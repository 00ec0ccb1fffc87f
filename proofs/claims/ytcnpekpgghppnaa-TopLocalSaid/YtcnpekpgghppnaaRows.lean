/-
  No cell of these rows narrows 'for every input' (looked for: loops, veiled, ifaces, maps, wideKeys, modest, calm, conditions, laid).
  DERIVED. THE GIVEN ROWS OF THIS SEAT. 3 by the template 'for every input the law returns true; each argument reads behind the call as it read before'; 0 by the template 'total and deterministic' (their statements: YtcnpekpgghppnaaTotals.lean).
  GIVEN WITH THE SEED: the statements are not yours to turn. If you find one false, say at which input.
  Laid BY PROGRAM, IN A SANDBOX (cutbox-rows.mjs): the forced cells as the released guide's own fill.sh prints them over the translation 9b6846c0d539d655… (all of the seat's roots in one cut). By AI agents, Wed Nov 11 2026. No macro, syntax, notation, axiom, sorry.
-/
import Derived.Test.YtcnpekpgghppnaaChecked
import GoSem.Claim
import GoSem.ClaimJoined
import GoSem.ClaimMapViews
import Derived.JoinedTies
import Derived.KernelRfl
namespace Go.Proofs.Ytcnpekpgghppnaa
/- THE CELL 'sum', in the pinned program and in every row, IS THE sha256 OF THE DUMP (.gsa) THAT YtcnpekpgghppnaaProg.lean LOADS. Nothing in Lean hashes anything: it is a label: what it is worth is what the hold of that sum in a sandbox is worth. -/
noncomputable def Try.pinned : Pinned := { name := "ytcnpekpgghppnaa", sum := "9b6846c0d539d655e27d780fd65efe80077db2bd58ed8c308a212cf68b928f0f", checked := Try.checked }
namespace Rows
def none {H : Type} : Left H := { results := [], args := [] }

/-- 'wavelettop.TopLocal': WHATEVER THE INPUT: true; the input reads as it did. -/
def topLocalSpec : ChangeSpec := { name := "topLocal", fn := fun _ => fun
  | [d1, d2, d3, d4] => { results := [.lit (.bool true)], args := [d1, d2, d3, d4] }
  | _ => none }
def topLocalRow : OpenClaim := { program := "ytcnpekpgghppnaa", sum := "9b6846c0d539d655e27d780fd65efe80077db2bd58ed8c308a212cf68b928f0f", func := "wavelet/wavelettop.TopLocal", spec := "topLocal", unfollowed := true, recurses := true, apart := false }
def TopLocalSaid : Prop := topLocalRow.holds Try.pinned (OpenSpec.ofChange topLocalSpec)

/-- ITS FALSE NEIGHBOUR: 'it returns false'. Refute it at one input. -/
def topLocalWrong : ChangeSpec := { name := "topLocal", fn := fun _ => fun
  | [d1, d2, d3, d4] => { results := [.lit (.bool false)], args := [d1, d2, d3, d4] }
  | _ => none }
def TopLocalWrongFalsely : Prop := topLocalRow.holds Try.pinned (OpenSpec.ofChange topLocalWrong)

/-- 'wavelettop.TopQuantized': WHATEVER THE INPUT: true; the input reads as it did. -/
def topQuantizedSpec : ChangeSpec := { name := "topQuantized", fn := fun _ => fun
  | [d1, d2, d3, d4] => { results := [.lit (.bool true)], args := [d1, d2, d3, d4] }
  | _ => none }
def topQuantizedRow : OpenClaim := { program := "ytcnpekpgghppnaa", sum := "9b6846c0d539d655e27d780fd65efe80077db2bd58ed8c308a212cf68b928f0f", func := "wavelet/wavelettop.TopQuantized", spec := "topQuantized", unfollowed := true, recurses := true, apart := false }
def TopQuantizedSaid : Prop := topQuantizedRow.holds Try.pinned (OpenSpec.ofChange topQuantizedSpec)

/-- ITS FALSE NEIGHBOUR: 'it returns false'. Refute it at one input. -/
def topQuantizedWrong : ChangeSpec := { name := "topQuantized", fn := fun _ => fun
  | [d1, d2, d3, d4] => { results := [.lit (.bool false)], args := [d1, d2, d3, d4] }
  | _ => none }
def TopQuantizedWrongFalsely : Prop := topQuantizedRow.holds Try.pinned (OpenSpec.ofChange topQuantizedWrong)

/-- 'wavelettop.TopTransforms': WHATEVER THE INPUT: true; the input reads as it did. -/
def topTransformsSpec : ChangeSpec := { name := "topTransforms", fn := fun _ => fun
  | [d1, d2, d3, d4] => { results := [.lit (.bool true)], args := [d1, d2, d3, d4] }
  | _ => none }
def topTransformsRow : OpenClaim := { program := "ytcnpekpgghppnaa", sum := "9b6846c0d539d655e27d780fd65efe80077db2bd58ed8c308a212cf68b928f0f", func := "wavelet/wavelettop.TopTransforms", spec := "topTransforms", unfollowed := true, recurses := true, apart := false }
def TopTransformsSaid : Prop := topTransformsRow.holds Try.pinned (OpenSpec.ofChange topTransformsSpec)

/-- ITS FALSE NEIGHBOUR: 'it returns false'. Refute it at one input. -/
def topTransformsWrong : ChangeSpec := { name := "topTransforms", fn := fun _ => fun
  | [d1, d2, d3, d4] => { results := [.lit (.bool false)], args := [d1, d2, d3, d4] }
  | _ => none }
def TopTransformsWrongFalsely : Prop := topTransformsRow.holds Try.pinned (OpenSpec.ofChange topTransformsWrong)

/- THE SECOND FORM. 'bulk': how many values and letters a reading holds, each counted each time it is reached (what is shared counts as often as it is met; a slice's spare places count too). A statement '..UptoSaid' is the law's where the arguments, and the package variables that the reading takes, are together of bulk at most 1048576: NARROWER than '..Said'. Prove '..Said' where nothing that the law and all that it calls make is longer than what came in: it says more and counts as full. Else prove '..UptoSaid'. A law counts once. -/
mutual
def uptoBulk {H : Type} : DataW H → Nat
  | .lit (.string bytes) => bytes.length + 1
  | .lit _ => 1
  | .nil => 1
  | .ptr d => uptoBulk d + 1
  | .slice elems spare => uptoBulkAll elems + uptoBulkAll spare + 1
  | .agg parts => uptoBulkAll parts + 1
  | .iface _ d => uptoBulk d + 1
  | .map entries => uptoBulkEntries entries + 1
  | .held _ => 1
def uptoBulkAll {H : Type} : List (DataW H) → Nat
  | [] => 0
  | d :: r => uptoBulk d + uptoBulkAll r
def uptoBulkEntries {H : Type} : List (Lit × DataW H) → Nat
  | [] => 0
  | x :: r => uptoBulkEntry x + uptoBulkEntries r
def uptoBulkEntry {H : Type} : Lit × DataW H → Nat
  | (.string bytes, d) => bytes.length + uptoBulk d + 1
  | (_, d) => uptoBulk d + 1
 end
def uptoSmall : (H : Type) → List (DataW H) → Bool := fun _ ds => decide (uptoBulkAll ds ≤ 1048576)
def OpenSpec.upto (s : _root_.Go.ChangeSpec) : _root_.Go.OpenSpec := { _root_.Go.OpenSpec.ofChange s with cond := some uptoSmall }

/-- 'wavelettop.TopLocal', WHERE WHAT IT READS IS OF BULK AT MOST 1048576: true; the input reads as it did. -/
def topLocalUptoRow : OpenClaim := { program := "ytcnpekpgghppnaa", sum := "9b6846c0d539d655e27d780fd65efe80077db2bd58ed8c308a212cf68b928f0f", func := "wavelet/wavelettop.TopLocal", spec := "topLocal", unfollowed := true, recurses := true, apart := false, narrowed := true }
def TopLocalUptoSaid : Prop := topLocalUptoRow.holds Try.pinned (OpenSpec.upto topLocalSpec)

/-- 'wavelettop.TopQuantized', WHERE WHAT IT READS IS OF BULK AT MOST 1048576: true; the input reads as it did. -/
def topQuantizedUptoRow : OpenClaim := { program := "ytcnpekpgghppnaa", sum := "9b6846c0d539d655e27d780fd65efe80077db2bd58ed8c308a212cf68b928f0f", func := "wavelet/wavelettop.TopQuantized", spec := "topQuantized", unfollowed := true, recurses := true, apart := false, narrowed := true }
def TopQuantizedUptoSaid : Prop := topQuantizedUptoRow.holds Try.pinned (OpenSpec.upto topQuantizedSpec)

/-- 'wavelettop.TopTransforms', WHERE WHAT IT READS IS OF BULK AT MOST 1048576: true; the input reads as it did. -/
def topTransformsUptoRow : OpenClaim := { program := "ytcnpekpgghppnaa", sum := "9b6846c0d539d655e27d780fd65efe80077db2bd58ed8c308a212cf68b928f0f", func := "wavelet/wavelettop.TopTransforms", spec := "topTransforms", unfollowed := true, recurses := true, apart := false, narrowed := true }
def TopTransformsUptoSaid : Prop := topTransformsUptoRow.holds Try.pinned (OpenSpec.upto topTransformsSpec)

end Rows
end Go.Proofs.Ytcnpekpgghppnaa
