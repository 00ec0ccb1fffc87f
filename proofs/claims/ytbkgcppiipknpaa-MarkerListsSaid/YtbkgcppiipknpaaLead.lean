/- A row of the call's own whose elements' slices lead to what came in: told by the world in which it was read (W0). By a program of this session. -/
import Derived.Test.YtbkgcppiipknpaaWWords
namespace Go.Proofs.YtbkgcppiipknpaaW.PrintWords
open Go Go.RowKit Go.Proofs.YtbkgcppiipknpaaW
namespace Kd
def lead {α : Type} (W0 : World) (d : Kd α) : Kd α where
  sz := d.sz
  E := []
  K := fun _ x cs => d.K W0 x cs
  M := fun _ _ _ x cs => d.K W0 x cs
  K_len := fun h => d.K_len h
  K_one := fun h => d.K_one h
  K_below := fun _ h => h
  K_of_M := fun h => h
  M_mono := fun _ h => h
  M_bound := fun h => h
  M_move := fun _ h => h
  M_lower := fun _ h => h
theorem lead_C {α : Type} {W0 w : World} {d : Kd α} {A : Option Addr} {n : Nat} {xs : List α} (hb : Below W0.heap.size W0 w) (h : Kd.C (lead W0 d) w A n xs) : Kd.C d w A n xs :=
  ReadsRow.imp_ h (Below.refl _ _) (fun _ _ hp => d.K_below hb hp)
end Kd
end Go.Proofs.YtbkgcppiipknpaaW.PrintWords
