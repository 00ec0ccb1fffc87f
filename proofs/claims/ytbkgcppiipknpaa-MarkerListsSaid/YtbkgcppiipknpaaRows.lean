/-
  No cell of these rows narrows 'for every input' (looked for: loops, veiled, ifaces, maps, wideKeys, modest, calm, conditions, laid).
  DERIVED. THE GIVEN ROWS OF THIS SEAT. 7 by the template 'for every input the law returns true; each argument reads behind the call as it read before'; 0 by the template 'total and deterministic' (their statements: YtbkgcppiipknpaaTotals.lean).
  GIVEN WITH THE SEED: the statements are not yours to turn. If you find one false, say at which input.
  Laid BY PROGRAM, IN A SANDBOX (cutbox-rows.mjs): the forced cells as the released guide's own fill.sh prints them over the translation 57a9cbabb1bffcb8… (all of the seat's roots in one cut). By AI agents, Wed Nov 11 2026. No macro, syntax, notation, axiom, sorry.
-/
import Derived.Test.YtbkgcppiipknpaaChecked
import GoSem.Claim
import GoSem.ClaimJoined
import GoSem.ClaimMapViews
import Derived.JoinedTies
import Derived.KernelRfl
namespace Go.Proofs.Ytbkgcppiipknpaa
/- THE CELL 'sum', in the pinned program and in every row, IS THE sha256 OF THE DUMP (.gsa) THAT YtbkgcppiipknpaaProg.lean LOADS. Nothing in Lean hashes anything: it is a label: what it is worth is what the hold of that sum in a sandbox is worth. -/
noncomputable def Try.pinned : Pinned := { name := "ytbkgcppiipknpaa", sum := "57a9cbabb1bffcb8fcd8dc32dfbb02dab6534241545b45f802f8b3bb10916517", checked := Try.checked }
namespace Rows
def none {H : Type} : Left H := { results := [], args := [] }

/-- 'waveletlaw28.MarkerKinds': WHATEVER THE INPUT: true; the input reads as it did. -/
def markerKindsSpec : ChangeSpec := { name := "markerKinds", fn := fun _ => fun
  | [d] => { results := [.lit (.bool true)], args := [d] }
  | _ => none }
def markerKindsRow : OpenClaim := { program := "ytbkgcppiipknpaa", sum := "57a9cbabb1bffcb8fcd8dc32dfbb02dab6534241545b45f802f8b3bb10916517", func := "wavelet/waveletlaw28.MarkerKinds", spec := "markerKinds", apart := false }
def MarkerKindsSaid : Prop := markerKindsRow.holds Try.pinned (OpenSpec.ofChange markerKindsSpec)

/-- ITS FALSE NEIGHBOUR: 'it returns false'. Refute it at one input. -/
def markerKindsWrong : ChangeSpec := { name := "markerKinds", fn := fun _ => fun
  | [d] => { results := [.lit (.bool false)], args := [d] }
  | _ => none }
def MarkerKindsWrongFalsely : Prop := markerKindsRow.holds Try.pinned (OpenSpec.ofChange markerKindsWrong)

/-- 'waveletlaw28.MarkerAppends': WHATEVER THE INPUT: true; the input reads as it did. -/
def markerAppendsSpec : ChangeSpec := { name := "markerAppends", fn := fun _ => fun
  | [d1, d2] => { results := [.lit (.bool true)], args := [d1, d2] }
  | _ => none }
def markerAppendsRow : OpenClaim := { program := "ytbkgcppiipknpaa", sum := "57a9cbabb1bffcb8fcd8dc32dfbb02dab6534241545b45f802f8b3bb10916517", func := "wavelet/waveletlaw28.MarkerAppends", spec := "markerAppends", apart := false }
def MarkerAppendsSaid : Prop := markerAppendsRow.holds Try.pinned (OpenSpec.ofChange markerAppendsSpec)

/-- ITS FALSE NEIGHBOUR: 'it returns false'. Refute it at one input. -/
def markerAppendsWrong : ChangeSpec := { name := "markerAppends", fn := fun _ => fun
  | [d1, d2] => { results := [.lit (.bool false)], args := [d1, d2] }
  | _ => none }
def MarkerAppendsWrongFalsely : Prop := markerAppendsRow.holds Try.pinned (OpenSpec.ofChange markerAppendsWrong)

/-- 'waveletlaw28.MarkerReads': WHATEVER THE INPUT: true; the input reads as it did. -/
def markerReadsSpec : ChangeSpec := { name := "markerReads", fn := fun _ => fun
  | [d1, d2] => { results := [.lit (.bool true)], args := [d1, d2] }
  | _ => none }
def markerReadsRow : OpenClaim := { program := "ytbkgcppiipknpaa", sum := "57a9cbabb1bffcb8fcd8dc32dfbb02dab6534241545b45f802f8b3bb10916517", func := "wavelet/waveletlaw28.MarkerReads", spec := "markerReads", apart := false }
def MarkerReadsSaid : Prop := markerReadsRow.holds Try.pinned (OpenSpec.ofChange markerReadsSpec)

/-- ITS FALSE NEIGHBOUR: 'it returns false'. Refute it at one input. -/
def markerReadsWrong : ChangeSpec := { name := "markerReads", fn := fun _ => fun
  | [d1, d2] => { results := [.lit (.bool false)], args := [d1, d2] }
  | _ => none }
def MarkerReadsWrongFalsely : Prop := markerReadsRow.holds Try.pinned (OpenSpec.ofChange markerReadsWrong)

/-- 'waveletlaw28.MarkerNumbers': WHATEVER THE INPUT: true; the input reads as it did. -/
def markerNumbersSpec : ChangeSpec := { name := "markerNumbers", fn := fun _ => fun
  | [d1, d2, d3, d4] => { results := [.lit (.bool true)], args := [d1, d2, d3, d4] }
  | _ => none }
def markerNumbersRow : OpenClaim := { program := "ytbkgcppiipknpaa", sum := "57a9cbabb1bffcb8fcd8dc32dfbb02dab6534241545b45f802f8b3bb10916517", func := "wavelet/waveletlaw28.MarkerNumbers", spec := "markerNumbers", apart := false }
def MarkerNumbersSaid : Prop := markerNumbersRow.holds Try.pinned (OpenSpec.ofChange markerNumbersSpec)

/-- ITS FALSE NEIGHBOUR: 'it returns false'. Refute it at one input. -/
def markerNumbersWrong : ChangeSpec := { name := "markerNumbers", fn := fun _ => fun
  | [d1, d2, d3, d4] => { results := [.lit (.bool false)], args := [d1, d2, d3, d4] }
  | _ => none }
def MarkerNumbersWrongFalsely : Prop := markerNumbersRow.holds Try.pinned (OpenSpec.ofChange markerNumbersWrong)

/-- 'waveletlaw28.MarkerReturns': WHATEVER THE INPUT: true; the input reads as it did. -/
def markerReturnsSpec : ChangeSpec := { name := "markerReturns", fn := fun _ => fun
  | [d1, d2, d3, d4, d5] => { results := [.lit (.bool true)], args := [d1, d2, d3, d4, d5] }
  | _ => none }
def markerReturnsRow : OpenClaim := { program := "ytbkgcppiipknpaa", sum := "57a9cbabb1bffcb8fcd8dc32dfbb02dab6534241545b45f802f8b3bb10916517", func := "wavelet/waveletlaw28.MarkerReturns", spec := "markerReturns", apart := false }
def MarkerReturnsSaid : Prop := markerReturnsRow.holds Try.pinned (OpenSpec.ofChange markerReturnsSpec)

/-- ITS FALSE NEIGHBOUR: 'it returns false'. Refute it at one input. -/
def markerReturnsWrong : ChangeSpec := { name := "markerReturns", fn := fun _ => fun
  | [d1, d2, d3, d4, d5] => { results := [.lit (.bool false)], args := [d1, d2, d3, d4, d5] }
  | _ => none }
def MarkerReturnsWrongFalsely : Prop := markerReturnsRow.holds Try.pinned (OpenSpec.ofChange markerReturnsWrong)

/-- 'waveletlaw28.MarkerCanonical': WHATEVER THE INPUT: true; the input reads as it did. -/
def markerCanonicalSpec : ChangeSpec := { name := "markerCanonical", fn := fun _ => fun
  | [d1, d2] => { results := [.lit (.bool true)], args := [d1, d2] }
  | _ => none }
def markerCanonicalRow : OpenClaim := { program := "ytbkgcppiipknpaa", sum := "57a9cbabb1bffcb8fcd8dc32dfbb02dab6534241545b45f802f8b3bb10916517", func := "wavelet/waveletlaw28.MarkerCanonical", spec := "markerCanonical", apart := false }
def MarkerCanonicalSaid : Prop := markerCanonicalRow.holds Try.pinned (OpenSpec.ofChange markerCanonicalSpec)

/-- ITS FALSE NEIGHBOUR: 'it returns false'. Refute it at one input. -/
def markerCanonicalWrong : ChangeSpec := { name := "markerCanonical", fn := fun _ => fun
  | [d1, d2] => { results := [.lit (.bool false)], args := [d1, d2] }
  | _ => none }
def MarkerCanonicalWrongFalsely : Prop := markerCanonicalRow.holds Try.pinned (OpenSpec.ofChange markerCanonicalWrong)

/-- 'waveletlaw28.MarkerLists': WHATEVER THE INPUT: true; the input reads as it did. -/
def markerListsSpec : ChangeSpec := { name := "markerLists", fn := fun _ => fun
  | [d1, d2] => { results := [.lit (.bool true)], args := [d1, d2] }
  | _ => none }
def markerListsRow : OpenClaim := { program := "ytbkgcppiipknpaa", sum := "57a9cbabb1bffcb8fcd8dc32dfbb02dab6534241545b45f802f8b3bb10916517", func := "wavelet/waveletlaw28.MarkerLists", spec := "markerLists", apart := false }
def MarkerListsSaid : Prop := markerListsRow.holds Try.pinned (OpenSpec.ofChange markerListsSpec)

/-- ITS FALSE NEIGHBOUR: 'it returns false'. Refute it at one input. -/
def markerListsWrong : ChangeSpec := { name := "markerLists", fn := fun _ => fun
  | [d1, d2] => { results := [.lit (.bool false)], args := [d1, d2] }
  | _ => none }
def MarkerListsWrongFalsely : Prop := markerListsRow.holds Try.pinned (OpenSpec.ofChange markerListsWrong)

/- THE SECOND FORM. 'bulk': how many values and letters a reading holds, each counted each time it is reached (what is shared counts as often as it is met; a slice's spare places count too). A statement '..UptoSaid' is the law's where the arguments, and the package variables that the reading takes, are together of bulk at most 1048576: NARROWER than '..Said'. Prove '..Said' where nothing that the law and all that it calls make is longer than what came in: it says more and counts as full. Else prove '..UptoSaid'. A law counts once. -/
mutual
def uptoBulk {H : Type} : DataW H → Nat
  | .lit (.string bytes) => bytes.length + 1
  | .lit _ => 1
  | .nil => 1
  | .ptr d => uptoBulk d + 1
  | .slice elems spare => uptoBulkAll elems + uptoBulkAll spare + 1
  | .agg parts => uptoBulkAll parts + 1
  | .iface _ d => uptoBulk d + 1
  | .map entries => uptoBulkEntries entries + 1
  | .held _ => 1
def uptoBulkAll {H : Type} : List (DataW H) → Nat
  | [] => 0
  | d :: r => uptoBulk d + uptoBulkAll r
def uptoBulkEntries {H : Type} : List (Lit × DataW H) → Nat
  | [] => 0
  | x :: r => uptoBulkEntry x + uptoBulkEntries r
def uptoBulkEntry {H : Type} : Lit × DataW H → Nat
  | (.string bytes, d) => bytes.length + uptoBulk d + 1
  | (_, d) => uptoBulk d + 1
 end
def uptoSmall : (H : Type) → List (DataW H) → Bool := fun _ ds => decide (uptoBulkAll ds ≤ 1048576)
def OpenSpec.upto (s : _root_.Go.ChangeSpec) : _root_.Go.OpenSpec := { _root_.Go.OpenSpec.ofChange s with cond := some uptoSmall }

/-- 'waveletlaw28.MarkerKinds', WHERE WHAT IT READS IS OF BULK AT MOST 1048576: true; the input reads as it did. -/
def markerKindsUptoRow : OpenClaim := { program := "ytbkgcppiipknpaa", sum := "57a9cbabb1bffcb8fcd8dc32dfbb02dab6534241545b45f802f8b3bb10916517", func := "wavelet/waveletlaw28.MarkerKinds", spec := "markerKinds", apart := false, narrowed := true }
def MarkerKindsUptoSaid : Prop := markerKindsUptoRow.holds Try.pinned (OpenSpec.upto markerKindsSpec)

/-- 'waveletlaw28.MarkerAppends', WHERE WHAT IT READS IS OF BULK AT MOST 1048576: true; the input reads as it did. -/
def markerAppendsUptoRow : OpenClaim := { program := "ytbkgcppiipknpaa", sum := "57a9cbabb1bffcb8fcd8dc32dfbb02dab6534241545b45f802f8b3bb10916517", func := "wavelet/waveletlaw28.MarkerAppends", spec := "markerAppends", apart := false, narrowed := true }
def MarkerAppendsUptoSaid : Prop := markerAppendsUptoRow.holds Try.pinned (OpenSpec.upto markerAppendsSpec)

/-- 'waveletlaw28.MarkerReads', WHERE WHAT IT READS IS OF BULK AT MOST 1048576: true; the input reads as it did. -/
def markerReadsUptoRow : OpenClaim := { program := "ytbkgcppiipknpaa", sum := "57a9cbabb1bffcb8fcd8dc32dfbb02dab6534241545b45f802f8b3bb10916517", func := "wavelet/waveletlaw28.MarkerReads", spec := "markerReads", apart := false, narrowed := true }
def MarkerReadsUptoSaid : Prop := markerReadsUptoRow.holds Try.pinned (OpenSpec.upto markerReadsSpec)

/-- 'waveletlaw28.MarkerNumbers', WHERE WHAT IT READS IS OF BULK AT MOST 1048576: true; the input reads as it did. -/
def markerNumbersUptoRow : OpenClaim := { program := "ytbkgcppiipknpaa", sum := "57a9cbabb1bffcb8fcd8dc32dfbb02dab6534241545b45f802f8b3bb10916517", func := "wavelet/waveletlaw28.MarkerNumbers", spec := "markerNumbers", apart := false, narrowed := true }
def MarkerNumbersUptoSaid : Prop := markerNumbersUptoRow.holds Try.pinned (OpenSpec.upto markerNumbersSpec)

/-- 'waveletlaw28.MarkerReturns', WHERE WHAT IT READS IS OF BULK AT MOST 1048576: true; the input reads as it did. -/
def markerReturnsUptoRow : OpenClaim := { program := "ytbkgcppiipknpaa", sum := "57a9cbabb1bffcb8fcd8dc32dfbb02dab6534241545b45f802f8b3bb10916517", func := "wavelet/waveletlaw28.MarkerReturns", spec := "markerReturns", apart := false, narrowed := true }
def MarkerReturnsUptoSaid : Prop := markerReturnsUptoRow.holds Try.pinned (OpenSpec.upto markerReturnsSpec)

/-- 'waveletlaw28.MarkerCanonical', WHERE WHAT IT READS IS OF BULK AT MOST 1048576: true; the input reads as it did. -/
def markerCanonicalUptoRow : OpenClaim := { program := "ytbkgcppiipknpaa", sum := "57a9cbabb1bffcb8fcd8dc32dfbb02dab6534241545b45f802f8b3bb10916517", func := "wavelet/waveletlaw28.MarkerCanonical", spec := "markerCanonical", apart := false, narrowed := true }
def MarkerCanonicalUptoSaid : Prop := markerCanonicalUptoRow.holds Try.pinned (OpenSpec.upto markerCanonicalSpec)

/-- 'waveletlaw28.MarkerLists', WHERE WHAT IT READS IS OF BULK AT MOST 1048576: true; the input reads as it did. -/
def markerListsUptoRow : OpenClaim := { program := "ytbkgcppiipknpaa", sum := "57a9cbabb1bffcb8fcd8dc32dfbb02dab6534241545b45f802f8b3bb10916517", func := "wavelet/waveletlaw28.MarkerLists", spec := "markerLists", apart := false, narrowed := true }
def MarkerListsUptoSaid : Prop := markerListsUptoRow.holds Try.pinned (OpenSpec.upto markerListsSpec)

end Rows
end Go.Proofs.Ytbkgcppiipknpaa
