/-
Proved here: sanity: its first program runs.
Conditions: none beyond those that the statements name.
-/
import Derived.KernelRfl
import Derived.Test.YtiljcnaeckeilaaGreatDoorSnA
set_option maxRecDepth 100000
namespace Go.Ev.Tb
open Go Go.Ev Go.Proofs
theorem run0 : go sum1 13 [.str 32 46343393526620099457935270724889984512659884054804226534233152545085604127498, .int .i64 (.ofNat 9)] = some (.str 12 15224305986018544612230050363) := by kernel_rfl
end Go.Ev.Tb
