/-
Proved here: no function of the program starts a goroutine.
Conditions: none beyond those that the statements name.
-/
import Derived.Test.YtiljcnaeckeilaaGreatDoorCards
import Derived.KernelRfl
set_option maxRecDepth 100000
namespace Go.Proofs.YtiljcnaeckeilaaGreatDoor.srcOps
open Go
theorem goes_none {P : Program} (h : P.funcs.any Func.goes = false) (f : FuncId) : P.goes f = false := by
  unfold Program.goes
  rw [h, Bool.and_false, Bool.or_false, List.any_eq_false]
  intro g _ hg
  rw [Array.any_eq_false] at h
  cases hf : P.funcs[g]? with
  | none => rw [hf] at hg; cases hg
  | some fn =>
    rw [hf] at hg
    obtain ⟨hlt, he⟩ := Array.getElem?_eq_some_iff.1 hf
    have h2 := h g hlt
    rw [he] at h2
    exact h2 hg
theorem goesBy_none {P : Program} (h : P.funcs.any Func.goes = false) (c : OpenClaim) (hs : c.start = .entering) : false = c.goesBy P := by
  unfold OpenClaim.goesBy Program.goesAt Program.goesFrom
  rw [hs]
  cases P.funcNamed c.func with
  | none => rfl
  | some f =>
    show false = (P.goes f || false)
    rw [goes_none h f]; rfl
theorem noGo : Tryz.pinned.checked.prog.funcs.any Func.goes = false := by kernel_rfl
theorem goesF : false = Rows.sourceOperatorsRow.goesBy Tryz.pinned.checked.prog := goesBy_none noGo _ rfl
end Go.Proofs.YtiljcnaeckeilaaGreatDoor.srcOps
