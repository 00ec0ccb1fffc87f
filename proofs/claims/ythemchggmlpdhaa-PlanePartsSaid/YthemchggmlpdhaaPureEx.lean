/- The chapter's examples hold. -/
import Derived.Test.YthemchggmlpdhaaPureSem
import Derived.Test.YthemchggmlpdhaaQ25
namespace Go.Proofs.Ythemchggmlpdhaa.Pure
open Go Go.RowKit Go.Proofs.Ythemchggmlpdhaa.Q Go.Proofs.YthemchggmlpdhaaW.PrintWords
theorem example_holds : Ev (fun k => waveletlaw02_exampleHolds.f k) true := Ev.at waveletlaw02_exampleHolds.mono ⟨100, by kernel_rfl⟩
theorem ex_ev : Ev (fun k => (waveletlaw02_exampleHolds.f k).bind fun t => (some t)) true := Ev.bind example_holds (Ev.const true)
end Go.Proofs.Ythemchggmlpdhaa.Pure
