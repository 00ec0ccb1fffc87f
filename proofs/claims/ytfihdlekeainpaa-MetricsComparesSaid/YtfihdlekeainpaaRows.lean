/-
  No cell of these rows narrows 'for every input' (looked for: loops, veiled, ifaces, maps, wideKeys, modest, calm, conditions, laid).
  DERIVED. THE GIVEN ROWS OF THIS SEAT. 7 by the template 'for every input the law returns true; each argument reads behind the call as it read before'; 0 by the template 'total and deterministic' (their statements: YtfihdlekeainpaaTotals.lean).
  GIVEN WITH THE SEED: the statements are not yours to turn. If you find one false, say at which input.
  Laid BY PROGRAM, IN A SANDBOX (cutbox-rows.mjs): the forced cells as the released guide's own fill.sh prints them over the translation d25793320cbdee49… (all of the seat's roots in one cut). By AI agents, Wed Nov 11 2026. No macro, syntax, notation, axiom, sorry.
-/
import Derived.Test.YtfihdlekeainpaaChecked
import GoSem.Claim
import GoSem.ClaimJoined
import GoSem.ClaimMapViews
import Derived.JoinedTies
import Derived.KernelRfl
namespace Go.Proofs.Ytfihdlekeainpaa
/- THE CELL 'sum', in the pinned program and in every row, IS THE sha256 OF THE DUMP (.gsa) THAT YtfihdlekeainpaaProg.lean LOADS. Nothing in Lean hashes anything: it is a label: what it is worth is what the hold of that sum in a sandbox is worth. -/
noncomputable def Try.pinned : Pinned := { name := "ytfihdlekeainpaa", sum := "d25793320cbdee490b7826309828449358765b295b1ce089a32eeae6fe7f0c6b", checked := Try.checked }
namespace Rows
def none {H : Type} : Left H := { results := [], args := [] }

/-- 'waveletlaw50.MetricsErrors': WHATEVER THE INPUT: true; the input reads as it did. -/
def metricsErrorsSpec : ChangeSpec := { name := "metricsErrors", fn := fun _ => fun
  | [d1, d2] => { results := [.lit (.bool true)], args := [d1, d2] }
  | _ => none }
def metricsErrorsRow : OpenClaim := { program := "ytfihdlekeainpaa", sum := "d25793320cbdee490b7826309828449358765b295b1ce089a32eeae6fe7f0c6b", func := "wavelet/waveletlaw50.MetricsErrors", spec := "metricsErrors", apart := false }
def MetricsErrorsSaid : Prop := metricsErrorsRow.holds Try.pinned (OpenSpec.ofChange metricsErrorsSpec)

/-- ITS FALSE NEIGHBOUR: 'it returns false'. Refute it at one input. -/
def metricsErrorsWrong : ChangeSpec := { name := "metricsErrors", fn := fun _ => fun
  | [d1, d2] => { results := [.lit (.bool false)], args := [d1, d2] }
  | _ => none }
def MetricsErrorsWrongFalsely : Prop := metricsErrorsRow.holds Try.pinned (OpenSpec.ofChange metricsErrorsWrong)

/-- 'waveletlaw50.MetricsCompares': WHATEVER THE INPUT: true; the input reads as it did. -/
def metricsComparesSpec : ChangeSpec := { name := "metricsCompares", fn := fun _ => fun
  | [d1, d2, d3] => { results := [.lit (.bool true)], args := [d1, d2, d3] }
  | _ => none }
def metricsComparesRow : OpenClaim := { program := "ytfihdlekeainpaa", sum := "d25793320cbdee490b7826309828449358765b295b1ce089a32eeae6fe7f0c6b", func := "wavelet/waveletlaw50.MetricsCompares", spec := "metricsCompares", apart := false }
def MetricsComparesSaid : Prop := metricsComparesRow.holds Try.pinned (OpenSpec.ofChange metricsComparesSpec)

/-- ITS FALSE NEIGHBOUR: 'it returns false'. Refute it at one input. -/
def metricsComparesWrong : ChangeSpec := { name := "metricsCompares", fn := fun _ => fun
  | [d1, d2, d3] => { results := [.lit (.bool false)], args := [d1, d2, d3] }
  | _ => none }
def MetricsComparesWrongFalsely : Prop := metricsComparesRow.holds Try.pinned (OpenSpec.ofChange metricsComparesWrong)

/-- 'waveletlaw50.MetricsCounts': WHATEVER THE INPUT: true; the input reads as it did. -/
def metricsCountsSpec : ChangeSpec := { name := "metricsCounts", fn := fun _ => fun
  | [d] => { results := [.lit (.bool true)], args := [d] }
  | _ => none }
def metricsCountsRow : OpenClaim := { program := "ytfihdlekeainpaa", sum := "d25793320cbdee490b7826309828449358765b295b1ce089a32eeae6fe7f0c6b", func := "wavelet/waveletlaw50.MetricsCounts", spec := "metricsCounts", apart := false }
def MetricsCountsSaid : Prop := metricsCountsRow.holds Try.pinned (OpenSpec.ofChange metricsCountsSpec)

/-- ITS FALSE NEIGHBOUR: 'it returns false'. Refute it at one input. -/
def metricsCountsWrong : ChangeSpec := { name := "metricsCounts", fn := fun _ => fun
  | [d] => { results := [.lit (.bool false)], args := [d] }
  | _ => none }
def MetricsCountsWrongFalsely : Prop := metricsCountsRow.holds Try.pinned (OpenSpec.ofChange metricsCountsWrong)

/-- 'waveletlaw50.MetricsRates': WHATEVER THE INPUT: true; the input reads as it did. -/
def metricsRatesSpec : ChangeSpec := { name := "metricsRates", fn := fun _ => fun
  | [d1, d2] => { results := [.lit (.bool true)], args := [d1, d2] }
  | _ => none }
def metricsRatesRow : OpenClaim := { program := "ytfihdlekeainpaa", sum := "d25793320cbdee490b7826309828449358765b295b1ce089a32eeae6fe7f0c6b", func := "wavelet/waveletlaw50.MetricsRates", spec := "metricsRates", apart := false }
def MetricsRatesSaid : Prop := metricsRatesRow.holds Try.pinned (OpenSpec.ofChange metricsRatesSpec)

/-- ITS FALSE NEIGHBOUR: 'it returns false'. Refute it at one input. -/
def metricsRatesWrong : ChangeSpec := { name := "metricsRates", fn := fun _ => fun
  | [d1, d2] => { results := [.lit (.bool false)], args := [d1, d2] }
  | _ => none }
def MetricsRatesWrongFalsely : Prop := metricsRatesRow.holds Try.pinned (OpenSpec.ofChange metricsRatesWrong)

/-- 'waveletlaw50.MetricsDistances': WHATEVER THE INPUT: true; the input reads as it did. -/
def metricsDistancesSpec : ChangeSpec := { name := "metricsDistances", fn := fun _ => fun
  | [d1, d2, d3] => { results := [.lit (.bool true)], args := [d1, d2, d3] }
  | _ => none }
def metricsDistancesRow : OpenClaim := { program := "ytfihdlekeainpaa", sum := "d25793320cbdee490b7826309828449358765b295b1ce089a32eeae6fe7f0c6b", func := "wavelet/waveletlaw50.MetricsDistances", spec := "metricsDistances", apart := false }
def MetricsDistancesSaid : Prop := metricsDistancesRow.holds Try.pinned (OpenSpec.ofChange metricsDistancesSpec)

/-- ITS FALSE NEIGHBOUR: 'it returns false'. Refute it at one input. -/
def metricsDistancesWrong : ChangeSpec := { name := "metricsDistances", fn := fun _ => fun
  | [d1, d2, d3] => { results := [.lit (.bool false)], args := [d1, d2, d3] }
  | _ => none }
def MetricsDistancesWrongFalsely : Prop := metricsDistancesRow.holds Try.pinned (OpenSpec.ofChange metricsDistancesWrong)

/-- 'waveletlaw50.MetricsCloser': WHATEVER THE INPUT: true; the input reads as it did. -/
def metricsCloserSpec : ChangeSpec := { name := "metricsCloser", fn := fun _ => fun
  | [d1, d2, d3] => { results := [.lit (.bool true)], args := [d1, d2, d3] }
  | _ => none }
def metricsCloserRow : OpenClaim := { program := "ytfihdlekeainpaa", sum := "d25793320cbdee490b7826309828449358765b295b1ce089a32eeae6fe7f0c6b", func := "wavelet/waveletlaw50.MetricsCloser", spec := "metricsCloser", apart := false }
def MetricsCloserSaid : Prop := metricsCloserRow.holds Try.pinned (OpenSpec.ofChange metricsCloserSpec)

/-- ITS FALSE NEIGHBOUR: 'it returns false'. Refute it at one input. -/
def metricsCloserWrong : ChangeSpec := { name := "metricsCloser", fn := fun _ => fun
  | [d1, d2, d3] => { results := [.lit (.bool false)], args := [d1, d2, d3] }
  | _ => none }
def MetricsCloserWrongFalsely : Prop := metricsCloserRow.holds Try.pinned (OpenSpec.ofChange metricsCloserWrong)

/-- 'waveletlaw50.MetricsSums': WHATEVER THE INPUT: true; the input reads as it did. -/
def metricsSumsSpec : ChangeSpec := { name := "metricsSums", fn := fun _ => fun
  | [d] => { results := [.lit (.bool true)], args := [d] }
  | _ => none }
def metricsSumsRow : OpenClaim := { program := "ytfihdlekeainpaa", sum := "d25793320cbdee490b7826309828449358765b295b1ce089a32eeae6fe7f0c6b", func := "wavelet/waveletlaw50.MetricsSums", spec := "metricsSums", apart := false }
def MetricsSumsSaid : Prop := metricsSumsRow.holds Try.pinned (OpenSpec.ofChange metricsSumsSpec)

/-- ITS FALSE NEIGHBOUR: 'it returns false'. Refute it at one input. -/
def metricsSumsWrong : ChangeSpec := { name := "metricsSums", fn := fun _ => fun
  | [d] => { results := [.lit (.bool false)], args := [d] }
  | _ => none }
def MetricsSumsWrongFalsely : Prop := metricsSumsRow.holds Try.pinned (OpenSpec.ofChange metricsSumsWrong)

/- THE SECOND FORM. 'bulk': how many values and letters a reading holds, each counted each time it is reached (what is shared counts as often as it is met; a slice's spare places count too). A statement '..UptoSaid' is the law's where the arguments, and the package variables that the reading takes, are together of bulk at most 1048576: NARROWER than '..Said'. Prove '..Said' where nothing that the law and all that it calls make is longer than what came in: it says more and counts as full. Else prove '..UptoSaid'. A law counts once. -/
mutual
def uptoBulk {H : Type} : DataW H → Nat
  | .lit (.string bytes) => bytes.length + 1
  | .lit _ => 1
  | .nil => 1
  | .ptr d => uptoBulk d + 1
  | .slice elems spare => uptoBulkAll elems + uptoBulkAll spare + 1
  | .agg parts => uptoBulkAll parts + 1
  | .iface _ d => uptoBulk d + 1
  | .map entries => uptoBulkEntries entries + 1
  | .held _ => 1
def uptoBulkAll {H : Type} : List (DataW H) → Nat
  | [] => 0
  | d :: r => uptoBulk d + uptoBulkAll r
def uptoBulkEntries {H : Type} : List (Lit × DataW H) → Nat
  | [] => 0
  | x :: r => uptoBulkEntry x + uptoBulkEntries r
def uptoBulkEntry {H : Type} : Lit × DataW H → Nat
  | (.string bytes, d) => bytes.length + uptoBulk d + 1
  | (_, d) => uptoBulk d + 1
 end
def uptoSmall : (H : Type) → List (DataW H) → Bool := fun _ ds => decide (uptoBulkAll ds ≤ 1048576)
def OpenSpec.upto (s : _root_.Go.ChangeSpec) : _root_.Go.OpenSpec := { _root_.Go.OpenSpec.ofChange s with cond := some uptoSmall }

/-- 'waveletlaw50.MetricsErrors', WHERE WHAT IT READS IS OF BULK AT MOST 1048576: true; the input reads as it did. -/
def metricsErrorsUptoRow : OpenClaim := { program := "ytfihdlekeainpaa", sum := "d25793320cbdee490b7826309828449358765b295b1ce089a32eeae6fe7f0c6b", func := "wavelet/waveletlaw50.MetricsErrors", spec := "metricsErrors", apart := false, narrowed := true }
def MetricsErrorsUptoSaid : Prop := metricsErrorsUptoRow.holds Try.pinned (OpenSpec.upto metricsErrorsSpec)

/-- 'waveletlaw50.MetricsCompares', WHERE WHAT IT READS IS OF BULK AT MOST 1048576: true; the input reads as it did. -/
def metricsComparesUptoRow : OpenClaim := { program := "ytfihdlekeainpaa", sum := "d25793320cbdee490b7826309828449358765b295b1ce089a32eeae6fe7f0c6b", func := "wavelet/waveletlaw50.MetricsCompares", spec := "metricsCompares", apart := false, narrowed := true }
def MetricsComparesUptoSaid : Prop := metricsComparesUptoRow.holds Try.pinned (OpenSpec.upto metricsComparesSpec)

/-- 'waveletlaw50.MetricsCounts', WHERE WHAT IT READS IS OF BULK AT MOST 1048576: true; the input reads as it did. -/
def metricsCountsUptoRow : OpenClaim := { program := "ytfihdlekeainpaa", sum := "d25793320cbdee490b7826309828449358765b295b1ce089a32eeae6fe7f0c6b", func := "wavelet/waveletlaw50.MetricsCounts", spec := "metricsCounts", apart := false, narrowed := true }
def MetricsCountsUptoSaid : Prop := metricsCountsUptoRow.holds Try.pinned (OpenSpec.upto metricsCountsSpec)

/-- 'waveletlaw50.MetricsRates', WHERE WHAT IT READS IS OF BULK AT MOST 1048576: true; the input reads as it did. -/
def metricsRatesUptoRow : OpenClaim := { program := "ytfihdlekeainpaa", sum := "d25793320cbdee490b7826309828449358765b295b1ce089a32eeae6fe7f0c6b", func := "wavelet/waveletlaw50.MetricsRates", spec := "metricsRates", apart := false, narrowed := true }
def MetricsRatesUptoSaid : Prop := metricsRatesUptoRow.holds Try.pinned (OpenSpec.upto metricsRatesSpec)

/-- 'waveletlaw50.MetricsDistances', WHERE WHAT IT READS IS OF BULK AT MOST 1048576: true; the input reads as it did. -/
def metricsDistancesUptoRow : OpenClaim := { program := "ytfihdlekeainpaa", sum := "d25793320cbdee490b7826309828449358765b295b1ce089a32eeae6fe7f0c6b", func := "wavelet/waveletlaw50.MetricsDistances", spec := "metricsDistances", apart := false, narrowed := true }
def MetricsDistancesUptoSaid : Prop := metricsDistancesUptoRow.holds Try.pinned (OpenSpec.upto metricsDistancesSpec)

/-- 'waveletlaw50.MetricsCloser', WHERE WHAT IT READS IS OF BULK AT MOST 1048576: true; the input reads as it did. -/
def metricsCloserUptoRow : OpenClaim := { program := "ytfihdlekeainpaa", sum := "d25793320cbdee490b7826309828449358765b295b1ce089a32eeae6fe7f0c6b", func := "wavelet/waveletlaw50.MetricsCloser", spec := "metricsCloser", apart := false, narrowed := true }
def MetricsCloserUptoSaid : Prop := metricsCloserUptoRow.holds Try.pinned (OpenSpec.upto metricsCloserSpec)

/-- 'waveletlaw50.MetricsSums', WHERE WHAT IT READS IS OF BULK AT MOST 1048576: true; the input reads as it did. -/
def metricsSumsUptoRow : OpenClaim := { program := "ytfihdlekeainpaa", sum := "d25793320cbdee490b7826309828449358765b295b1ce089a32eeae6fe7f0c6b", func := "wavelet/waveletlaw50.MetricsSums", spec := "metricsSums", apart := false, narrowed := true }
def MetricsSumsUptoSaid : Prop := metricsSumsUptoRow.holds Try.pinned (OpenSpec.upto metricsSumsSpec)

end Rows
end Go.Proofs.Ytfihdlekeainpaa
