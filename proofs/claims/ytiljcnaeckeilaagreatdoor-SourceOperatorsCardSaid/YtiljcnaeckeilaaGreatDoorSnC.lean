/-
Proved here: sanity: its second program runs.
Conditions: none beyond those that the statements name.
-/
import Derived.KernelRfl
import Derived.Test.YtiljcnaeckeilaaGreatDoorSnA
set_option maxRecDepth 100000
namespace Go.Ev.Tb
open Go Go.Ev Go.Proofs
theorem run1 : go sum1 13 [.str 40 854884719892768917166075198650473430752426498327497344086124148444878344567992568575032185217802, .int .i64 (.ofNat 9)] = some (.str 8 3637331191222252091) := by kernel_rfl
end Go.Ev.Tb
