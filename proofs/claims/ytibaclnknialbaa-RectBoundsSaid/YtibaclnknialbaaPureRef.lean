/- The reference's Valid, Empty, CeilDiv and FloorDiv compute what the program's do. -/
import Derived.Test.YtibaclnknialbaaPureLib
import Derived.Test.YtibaclnknialbaaQ3
import Derived.Test.YtibaclnknialbaaQ5
import Derived.Test.YtibaclnknialbaaQ19
import Derived.Test.YtibaclnknialbaaQ21
namespace Go.Proofs.Ytibaclnknialbaa.Pure
open Go.RowKit Go.Proofs.Ytibaclnknialbaa.Q Go.Proofs.YtibaclnknialbaaW.PrintWords
theorem rvalid_eq (a b c d : Int) : waveletref01_Valid.f a b c d = some (decide (Valid a b c d)) := valid_eq a b c d
theorem rempty_eq (a b c d : Int) : waveletref01_Empty.f a b c d = some (decide (c ≤ a ∨ d ≤ b)) := empty_eq a b c d
theorem rceil_eq (a b : Int) : waveletref01_CeilDiv.f a b = some (cdiv a b) := ceil_eq a b
theorem rfloor_eq (a b : Int) : waveletref01_FloorDiv.f a b = some (fdiv a b) := floor_eq a b
end Go.Proofs.Ytibaclnknialbaa.Pure
