/-
Proved here: unary operators, lines and texts of the sixteen values.
Conditions: none beyond those that the statements name.
-/
import Derived.Test.YtiljcnaeckeilaaGreatDoorBas
set_option maxRecDepth 100000
namespace Go.Ev.Tb
open Go Go.Ev Go.Proofs
theorem un3 : allB (fun a => chk1 [.tup [.agg [.int .i64 (.ofNat 0), .int .i64 (.ofNat 0), .str 0 0], .str 4 1954115685], .tup [.agg [.int .i64 (.ofNat 2), .int .i64 (.ofNat 0), .str 0 0], .str 0 0], .tup [.agg [.int .i64 (.ofNat 2), .int .i64 (.ofNat 1), .str 0 0], .str 0 0]] (.int .i64 (.ofNat 3)) a) vals = true := by kernel_rfl
theorem un4 : allB (fun a => chk1 RI (.int .i64 (.ofNat 4)) a) vals = true := by kernel_rfl
theorem linA : allB (fun a => chkL (cLine 97 a)) vals = true := by kernel_rfl
theorem linB : allB (fun a => chkL (cLine 98 a)) vals = true := by kernel_rfl
theorem linO : allB (fun o => chkL (oLine o)) [.ofNat 5, .ofNat 6, .ofNat 7, .ofNat 8, .ofNat 9, .ofNat 10, .ofNat 11, .ofNat 12, .ofNat 13, .ofNat 14] = true := by kernel_rfl
theorem txt : allB chkI intL = true := by kernel_rfl
end Go.Ev.Tb
