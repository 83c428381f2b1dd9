/-
Proved here: sanity: its fourth program runs.
Conditions: none beyond those that the statements name.
-/
import Derived.KernelRfl
import Derived.Test.YtiljcnaeckeilaaGreatDoorSnA
set_option maxRecDepth 100000
namespace Go.Ev.Tb
open Go Go.Ev Go.Proofs
theorem run3 : go sum1 13 [.str 39 3339393437081128582679981244728412261992197478041297884408682062791883783931195029337230172938, .int .i64 (.ofNat 9)] = some (.str 4 859844923) := by kernel_rfl
end Go.Ev.Tb
