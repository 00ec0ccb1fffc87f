/-
  No cell of these rows narrows 'for every input' (looked for: loops, veiled, ifaces, maps, wideKeys, modest, calm, conditions, laid).
  DERIVED. THE GIVEN ROWS OF THIS SEAT. 9 by the template 'for every input the law returns true; each argument reads behind the call as it read before'; 0 by the template 'total and deterministic' (their statements: YthemchggmlpdhaaTotals.lean).
  GIVEN WITH THE SEED: the statements are not yours to turn. If you find one false, say at which input.
  Laid BY PROGRAM, IN A SANDBOX (cutbox-rows.mjs): the forced cells as the released guide's own fill.sh prints them over the translation a5b085f490e572a7… (all of the seat's roots in one cut). By AI agents, Wed Nov 11 2026. No macro, syntax, notation, axiom, sorry.
-/
import Derived.Test.YthemchggmlpdhaaChecked
import GoSem.Claim
import GoSem.ClaimJoined
import GoSem.ClaimMapViews
import Derived.JoinedTies
import Derived.KernelRfl
namespace Go.Proofs.Ythemchggmlpdhaa
/- THE CELL 'sum', in the pinned program and in every row, IS THE sha256 OF THE DUMP (.gsa) THAT YthemchggmlpdhaaProg.lean LOADS. Nothing in Lean hashes anything: it is a label: what it is worth is what the hold of that sum in a sandbox is worth. -/
noncomputable def Try.pinned : Pinned := { name := "ythemchggmlpdhaa", sum := "a5b085f490e572a7f785db6f488f47c182d6f82d187ba48aa6cd313a37824c79", checked := Try.checked }
namespace Rows
def none {H : Type} : Left H := { results := [], args := [] }

/-- 'waveletlaw02.PlaneNews': WHATEVER THE INPUT: true; the input reads as it did. -/
def planeNewsSpec : ChangeSpec := { name := "planeNews", fn := fun _ => fun
  | [d] => { results := [.lit (.bool true)], args := [d] }
  | _ => none }
def planeNewsRow : OpenClaim := { program := "ythemchggmlpdhaa", sum := "a5b085f490e572a7f785db6f488f47c182d6f82d187ba48aa6cd313a37824c79", func := "wavelet/waveletlaw02.PlaneNews", spec := "planeNews", apart := false }
def PlaneNewsSaid : Prop := planeNewsRow.holds Try.pinned (OpenSpec.ofChange planeNewsSpec)

/-- ITS FALSE NEIGHBOUR: 'it returns false'. Refute it at one input. -/
def planeNewsWrong : ChangeSpec := { name := "planeNews", fn := fun _ => fun
  | [d] => { results := [.lit (.bool false)], args := [d] }
  | _ => none }
def PlaneNewsWrongFalsely : Prop := planeNewsRow.holds Try.pinned (OpenSpec.ofChange planeNewsWrong)

/-- 'waveletlaw02.PlaneReads': WHATEVER THE INPUT: true; the input reads as it did. -/
def planeReadsSpec : ChangeSpec := { name := "planeReads", fn := fun _ => fun
  | [d1, d2, d3] => { results := [.lit (.bool true)], args := [d1, d2, d3] }
  | _ => none }
def planeReadsRow : OpenClaim := { program := "ythemchggmlpdhaa", sum := "a5b085f490e572a7f785db6f488f47c182d6f82d187ba48aa6cd313a37824c79", func := "wavelet/waveletlaw02.PlaneReads", spec := "planeReads", apart := false }
def PlaneReadsSaid : Prop := planeReadsRow.holds Try.pinned (OpenSpec.ofChange planeReadsSpec)

/-- ITS FALSE NEIGHBOUR: 'it returns false'. Refute it at one input. -/
def planeReadsWrong : ChangeSpec := { name := "planeReads", fn := fun _ => fun
  | [d1, d2, d3] => { results := [.lit (.bool false)], args := [d1, d2, d3] }
  | _ => none }
def PlaneReadsWrongFalsely : Prop := planeReadsRow.holds Try.pinned (OpenSpec.ofChange planeReadsWrong)

/-- 'waveletlaw02.PlaneCrops': WHATEVER THE INPUT: true; the input reads as it did. -/
def planeCropsSpec : ChangeSpec := { name := "planeCrops", fn := fun _ => fun
  | [d1, d2] => { results := [.lit (.bool true)], args := [d1, d2] }
  | _ => none }
def planeCropsRow : OpenClaim := { program := "ythemchggmlpdhaa", sum := "a5b085f490e572a7f785db6f488f47c182d6f82d187ba48aa6cd313a37824c79", func := "wavelet/waveletlaw02.PlaneCrops", spec := "planeCrops", apart := false }
def PlaneCropsSaid : Prop := planeCropsRow.holds Try.pinned (OpenSpec.ofChange planeCropsSpec)

/-- ITS FALSE NEIGHBOUR: 'it returns false'. Refute it at one input. -/
def planeCropsWrong : ChangeSpec := { name := "planeCrops", fn := fun _ => fun
  | [d1, d2] => { results := [.lit (.bool false)], args := [d1, d2] }
  | _ => none }
def PlaneCropsWrongFalsely : Prop := planeCropsRow.holds Try.pinned (OpenSpec.ofChange planeCropsWrong)

/-- 'waveletlaw02.PlanePastes': WHATEVER THE INPUT: true; the input reads as it did. -/
def planePastesSpec : ChangeSpec := { name := "planePastes", fn := fun _ => fun
  | [d1, d2] => { results := [.lit (.bool true)], args := [d1, d2] }
  | _ => none }
def planePastesRow : OpenClaim := { program := "ythemchggmlpdhaa", sum := "a5b085f490e572a7f785db6f488f47c182d6f82d187ba48aa6cd313a37824c79", func := "wavelet/waveletlaw02.PlanePastes", spec := "planePastes", apart := false }
def PlanePastesSaid : Prop := planePastesRow.holds Try.pinned (OpenSpec.ofChange planePastesSpec)

/-- ITS FALSE NEIGHBOUR: 'it returns false'. Refute it at one input. -/
def planePastesWrong : ChangeSpec := { name := "planePastes", fn := fun _ => fun
  | [d1, d2] => { results := [.lit (.bool false)], args := [d1, d2] }
  | _ => none }
def PlanePastesWrongFalsely : Prop := planePastesRow.holds Try.pinned (OpenSpec.ofChange planePastesWrong)

/-- 'waveletlaw02.PlaneClips': WHATEVER THE INPUT: true; the input reads as it did. -/
def planeClipsSpec : ChangeSpec := { name := "planeClips", fn := fun _ => fun
  | [d1, d2, d3] => { results := [.lit (.bool true)], args := [d1, d2, d3] }
  | _ => none }
def planeClipsRow : OpenClaim := { program := "ythemchggmlpdhaa", sum := "a5b085f490e572a7f785db6f488f47c182d6f82d187ba48aa6cd313a37824c79", func := "wavelet/waveletlaw02.PlaneClips", spec := "planeClips", apart := false }
def PlaneClipsSaid : Prop := planeClipsRow.holds Try.pinned (OpenSpec.ofChange planeClipsSpec)

/-- ITS FALSE NEIGHBOUR: 'it returns false'. Refute it at one input. -/
def planeClipsWrong : ChangeSpec := { name := "planeClips", fn := fun _ => fun
  | [d1, d2, d3] => { results := [.lit (.bool false)], args := [d1, d2, d3] }
  | _ => none }
def PlaneClipsWrongFalsely : Prop := planeClipsRow.holds Try.pinned (OpenSpec.ofChange planeClipsWrong)

/-- 'waveletlaw02.PlaneSames': WHATEVER THE INPUT: true; the input reads as it did. -/
def planeSamesSpec : ChangeSpec := { name := "planeSames", fn := fun _ => fun
  | [d1, d2] => { results := [.lit (.bool true)], args := [d1, d2] }
  | _ => none }
def planeSamesRow : OpenClaim := { program := "ythemchggmlpdhaa", sum := "a5b085f490e572a7f785db6f488f47c182d6f82d187ba48aa6cd313a37824c79", func := "wavelet/waveletlaw02.PlaneSames", spec := "planeSames", apart := false }
def PlaneSamesSaid : Prop := planeSamesRow.holds Try.pinned (OpenSpec.ofChange planeSamesSpec)

/-- ITS FALSE NEIGHBOUR: 'it returns false'. Refute it at one input. -/
def planeSamesWrong : ChangeSpec := { name := "planeSames", fn := fun _ => fun
  | [d1, d2] => { results := [.lit (.bool false)], args := [d1, d2] }
  | _ => none }
def PlaneSamesWrongFalsely : Prop := planeSamesRow.holds Try.pinned (OpenSpec.ofChange planeSamesWrong)

/-- 'waveletlaw02.PlaneParts': WHATEVER THE INPUT: true; the input reads as it did. -/
def planePartsSpec : ChangeSpec := { name := "planeParts", fn := fun _ => fun
  | [d1, d2, d3] => { results := [.lit (.bool true)], args := [d1, d2, d3] }
  | _ => none }
def planePartsRow : OpenClaim := { program := "ythemchggmlpdhaa", sum := "a5b085f490e572a7f785db6f488f47c182d6f82d187ba48aa6cd313a37824c79", func := "wavelet/waveletlaw02.PlaneParts", spec := "planeParts", apart := false }
def PlanePartsSaid : Prop := planePartsRow.holds Try.pinned (OpenSpec.ofChange planePartsSpec)

/-- ITS FALSE NEIGHBOUR: 'it returns false'. Refute it at one input. -/
def planePartsWrong : ChangeSpec := { name := "planeParts", fn := fun _ => fun
  | [d1, d2, d3] => { results := [.lit (.bool false)], args := [d1, d2, d3] }
  | _ => none }
def PlanePartsWrongFalsely : Prop := planePartsRow.holds Try.pinned (OpenSpec.ofChange planePartsWrong)

/-- 'waveletlaw02.PlanePieces': WHATEVER THE INPUT: true; the input reads as it did. -/
def planePiecesSpec : ChangeSpec := { name := "planePieces", fn := fun _ => fun
  | [d] => { results := [.lit (.bool true)], args := [d] }
  | _ => none }
def planePiecesRow : OpenClaim := { program := "ythemchggmlpdhaa", sum := "a5b085f490e572a7f785db6f488f47c182d6f82d187ba48aa6cd313a37824c79", func := "wavelet/waveletlaw02.PlanePieces", spec := "planePieces", apart := false }
def PlanePiecesSaid : Prop := planePiecesRow.holds Try.pinned (OpenSpec.ofChange planePiecesSpec)

/-- ITS FALSE NEIGHBOUR: 'it returns false'. Refute it at one input. -/
def planePiecesWrong : ChangeSpec := { name := "planePieces", fn := fun _ => fun
  | [d] => { results := [.lit (.bool false)], args := [d] }
  | _ => none }
def PlanePiecesWrongFalsely : Prop := planePiecesRow.holds Try.pinned (OpenSpec.ofChange planePiecesWrong)

/-- 'waveletlaw02.PlaneLimited': WHATEVER THE INPUT: true; the input reads as it did. -/
def planeLimitedSpec : ChangeSpec := { name := "planeLimited", fn := fun _ => fun
  | [d1, d2, d3] => { results := [.lit (.bool true)], args := [d1, d2, d3] }
  | _ => none }
def planeLimitedRow : OpenClaim := { program := "ythemchggmlpdhaa", sum := "a5b085f490e572a7f785db6f488f47c182d6f82d187ba48aa6cd313a37824c79", func := "wavelet/waveletlaw02.PlaneLimited", spec := "planeLimited", apart := false }
def PlaneLimitedSaid : Prop := planeLimitedRow.holds Try.pinned (OpenSpec.ofChange planeLimitedSpec)

/-- ITS FALSE NEIGHBOUR: 'it returns false'. Refute it at one input. -/
def planeLimitedWrong : ChangeSpec := { name := "planeLimited", fn := fun _ => fun
  | [d1, d2, d3] => { results := [.lit (.bool false)], args := [d1, d2, d3] }
  | _ => none }
def PlaneLimitedWrongFalsely : Prop := planeLimitedRow.holds Try.pinned (OpenSpec.ofChange planeLimitedWrong)

/- THE SECOND FORM. 'bulk': how many values and letters a reading holds, each counted each time it is reached (what is shared counts as often as it is met; a slice's spare places count too). A statement '..UptoSaid' is the law's where the arguments, and the package variables that the reading takes, are together of bulk at most 1048576: NARROWER than '..Said'. Prove '..Said' where nothing that the law and all that it calls make is longer than what came in: it says more and counts as full. Else prove '..UptoSaid'. A law counts once. -/
mutual
def uptoBulk {H : Type} : DataW H → Nat
  | .lit (.string bytes) => bytes.length + 1
  | .lit _ => 1
  | .nil => 1
  | .ptr d => uptoBulk d + 1
  | .slice elems spare => uptoBulkAll elems + uptoBulkAll spare + 1
  | .agg parts => uptoBulkAll parts + 1
  | .iface _ d => uptoBulk d + 1
  | .map entries => uptoBulkEntries entries + 1
  | .held _ => 1
def uptoBulkAll {H : Type} : List (DataW H) → Nat
  | [] => 0
  | d :: r => uptoBulk d + uptoBulkAll r
def uptoBulkEntries {H : Type} : List (Lit × DataW H) → Nat
  | [] => 0
  | x :: r => uptoBulkEntry x + uptoBulkEntries r
def uptoBulkEntry {H : Type} : Lit × DataW H → Nat
  | (.string bytes, d) => bytes.length + uptoBulk d + 1
  | (_, d) => uptoBulk d + 1
 end
def uptoSmall : (H : Type) → List (DataW H) → Bool := fun _ ds => decide (uptoBulkAll ds ≤ 1048576)
def OpenSpec.upto (s : _root_.Go.ChangeSpec) : _root_.Go.OpenSpec := { _root_.Go.OpenSpec.ofChange s with cond := some uptoSmall }

/-- 'waveletlaw02.PlaneNews', WHERE WHAT IT READS IS OF BULK AT MOST 1048576: true; the input reads as it did. -/
def planeNewsUptoRow : OpenClaim := { program := "ythemchggmlpdhaa", sum := "a5b085f490e572a7f785db6f488f47c182d6f82d187ba48aa6cd313a37824c79", func := "wavelet/waveletlaw02.PlaneNews", spec := "planeNews", apart := false, narrowed := true }
def PlaneNewsUptoSaid : Prop := planeNewsUptoRow.holds Try.pinned (OpenSpec.upto planeNewsSpec)

/-- 'waveletlaw02.PlaneReads', WHERE WHAT IT READS IS OF BULK AT MOST 1048576: true; the input reads as it did. -/
def planeReadsUptoRow : OpenClaim := { program := "ythemchggmlpdhaa", sum := "a5b085f490e572a7f785db6f488f47c182d6f82d187ba48aa6cd313a37824c79", func := "wavelet/waveletlaw02.PlaneReads", spec := "planeReads", apart := false, narrowed := true }
def PlaneReadsUptoSaid : Prop := planeReadsUptoRow.holds Try.pinned (OpenSpec.upto planeReadsSpec)

/-- 'waveletlaw02.PlaneCrops', WHERE WHAT IT READS IS OF BULK AT MOST 1048576: true; the input reads as it did. -/
def planeCropsUptoRow : OpenClaim := { program := "ythemchggmlpdhaa", sum := "a5b085f490e572a7f785db6f488f47c182d6f82d187ba48aa6cd313a37824c79", func := "wavelet/waveletlaw02.PlaneCrops", spec := "planeCrops", apart := false, narrowed := true }
def PlaneCropsUptoSaid : Prop := planeCropsUptoRow.holds Try.pinned (OpenSpec.upto planeCropsSpec)

/-- 'waveletlaw02.PlanePastes', WHERE WHAT IT READS IS OF BULK AT MOST 1048576: true; the input reads as it did. -/
def planePastesUptoRow : OpenClaim := { program := "ythemchggmlpdhaa", sum := "a5b085f490e572a7f785db6f488f47c182d6f82d187ba48aa6cd313a37824c79", func := "wavelet/waveletlaw02.PlanePastes", spec := "planePastes", apart := false, narrowed := true }
def PlanePastesUptoSaid : Prop := planePastesUptoRow.holds Try.pinned (OpenSpec.upto planePastesSpec)

/-- 'waveletlaw02.PlaneClips', WHERE WHAT IT READS IS OF BULK AT MOST 1048576: true; the input reads as it did. -/
def planeClipsUptoRow : OpenClaim := { program := "ythemchggmlpdhaa", sum := "a5b085f490e572a7f785db6f488f47c182d6f82d187ba48aa6cd313a37824c79", func := "wavelet/waveletlaw02.PlaneClips", spec := "planeClips", apart := false, narrowed := true }
def PlaneClipsUptoSaid : Prop := planeClipsUptoRow.holds Try.pinned (OpenSpec.upto planeClipsSpec)

/-- 'waveletlaw02.PlaneSames', WHERE WHAT IT READS IS OF BULK AT MOST 1048576: true; the input reads as it did. -/
def planeSamesUptoRow : OpenClaim := { program := "ythemchggmlpdhaa", sum := "a5b085f490e572a7f785db6f488f47c182d6f82d187ba48aa6cd313a37824c79", func := "wavelet/waveletlaw02.PlaneSames", spec := "planeSames", apart := false, narrowed := true }
def PlaneSamesUptoSaid : Prop := planeSamesUptoRow.holds Try.pinned (OpenSpec.upto planeSamesSpec)

/-- 'waveletlaw02.PlaneParts', WHERE WHAT IT READS IS OF BULK AT MOST 1048576: true; the input reads as it did. -/
def planePartsUptoRow : OpenClaim := { program := "ythemchggmlpdhaa", sum := "a5b085f490e572a7f785db6f488f47c182d6f82d187ba48aa6cd313a37824c79", func := "wavelet/waveletlaw02.PlaneParts", spec := "planeParts", apart := false, narrowed := true }
def PlanePartsUptoSaid : Prop := planePartsUptoRow.holds Try.pinned (OpenSpec.upto planePartsSpec)

/-- 'waveletlaw02.PlanePieces', WHERE WHAT IT READS IS OF BULK AT MOST 1048576: true; the input reads as it did. -/
def planePiecesUptoRow : OpenClaim := { program := "ythemchggmlpdhaa", sum := "a5b085f490e572a7f785db6f488f47c182d6f82d187ba48aa6cd313a37824c79", func := "wavelet/waveletlaw02.PlanePieces", spec := "planePieces", apart := false, narrowed := true }
def PlanePiecesUptoSaid : Prop := planePiecesUptoRow.holds Try.pinned (OpenSpec.upto planePiecesSpec)

/-- 'waveletlaw02.PlaneLimited', WHERE WHAT IT READS IS OF BULK AT MOST 1048576: true; the input reads as it did. -/
def planeLimitedUptoRow : OpenClaim := { program := "ythemchggmlpdhaa", sum := "a5b085f490e572a7f785db6f488f47c182d6f82d187ba48aa6cd313a37824c79", func := "wavelet/waveletlaw02.PlaneLimited", spec := "planeLimited", apart := false, narrowed := true }
def PlaneLimitedUptoSaid : Prop := planeLimitedUptoRow.holds Try.pinned (OpenSpec.upto planeLimitedSpec)

end Rows
end Go.Proofs.Ythemchggmlpdhaa
