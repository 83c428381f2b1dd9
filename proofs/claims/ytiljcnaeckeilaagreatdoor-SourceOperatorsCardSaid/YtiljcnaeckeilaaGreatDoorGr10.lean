/-
Proved here: operator 10 of the program is the reference's, at all pairs of the sixteen values.
Conditions: none beyond those that the statements name.
-/
import Derived.Test.YtiljcnaeckeilaaGreatDoorBas
set_option maxRecDepth 100000
namespace Go.Ev.Tb
open Go Go.Ev Go.Proofs
theorem bin10 : all2 (.int .i64 (.ofNat 10)) = true := by kernel_rfl
end Go.Ev.Tb
