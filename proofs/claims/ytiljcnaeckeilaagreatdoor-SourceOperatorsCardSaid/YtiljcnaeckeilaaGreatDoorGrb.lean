/-
Proved here: the reference at not and neg.
Conditions: none beyond those that the statements name.
-/
import Derived.Test.YtiljcnaeckeilaaGreatDoorBas
set_option maxRecDepth 100000
namespace Go.Ev.Tb
open Go Go.Ev Go.Proofs
theorem six3 : allB (fun a => allB (fun b => chk6 (.int .i64 (.ofNat 3)) a b) vals) vals = true := by kernel_rfl
end Go.Ev.Tb
set_option maxRecDepth 100000
namespace Go.Ev.Tb
open Go Go.Ev Go.Proofs
theorem six4 : allB (fun a => allB (fun b => chk6 (.int .i64 (.ofNat 4)) a b) vals) vals = true := by kernel_rfl
end Go.Ev.Tb
