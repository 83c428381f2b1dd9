/-
Proved here: a world that holds the listed tables.
Conditions: none beyond those that the statements name.
-/
import Derived.Test.YtiljcnaeckeilaaGreatDoorRow
set_option maxRecDepth 100000
namespace Go.Proofs.YtiljcnaeckeilaaGreatDoor.srcOps
open Go Go.ChangeShapes Go.WideShapes Go.ChangeAt Go.RowKit

/-! a world for the witness: the listed tables as the row lists them -/
def litCells : List (DataW Unit) → List Value
  | .lit (.int k n) :: r => .int k n :: litCells r
  | .agg [.lit (.int k n), .lit (.int l m)] :: r => .int k n :: .int l m :: litCells r
  | _ => []
def tabCells : DataW Unit → Array Value
  | .agg l => (litCells l).toArray
  | _ => #[]
def synS : ByteArray := { data := #[105, 110, 118, 97, 108, 105, 100, 32, 115, 121, 110, 116, 97, 120] }
def rngS : ByteArray := { data := #[118, 97, 108, 117, 101, 32, 111, 117, 116, 32, 111, 102, 32, 114, 97, 110, 103, 101] }
noncomputable def low : Nat := (World.holding Tryz.prog default ⟨#[], #[], []⟩).heap.size
def putRow (cs : Array Value) : Obj → Obj
  | .cells _ t frozen => .cells cs t frozen
  | o => o
noncomputable def laidWorld (os : Os) : World :=
  let w0 := World.holding Tryz.prog os ⟨#[.cells #[.string synS] 432, .cells #[.string rngS] 432], #[], []⟩
  { w0 with heap := ((((((w0.heap.modify 1 (putRow (tabCells Rows.laid_internal_strconv_uint64pow10))).modify 2 (putRow (tabCells Rows.laid_math_bits_deBruijn32tab))).modify 3 (putRow (tabCells Rows.laid_math_bits_deBruijn64tab))).modify 4 (putRow (tabCells Go.Pinned.utf8First))).modify 5 (putRow (tabCells Rows.laid_unicode_utf8_acceptRanges))).modify 6 (putRow #[.iface 430 (.pointer (some ⟨low, 0, none⟩))])).modify 7 (putRow #[.iface 430 (.pointer (some ⟨low + 1, 0, none⟩))]) }
theorem laidA (os : Os) : (DataW.laidRun Tryz.prog ((laidWorld os).forCall (fun _ _ => 0) ⟨#[], #[.int .u8 0, .slice none 0 0], []⟩).memory 8 (Rows.sourceOperatorsRow.laid.map (·.1))).map (·.1) = some Rows.sourceOperatorsRow.laid := by kernel_rfl
theorem laidB (os : Os) : (DataW.laidRun Tryz.prog ((laidWorld os).forCall (fun _ _ => 0) ⟨#[], #[.int .u8 0, .slice none 0 0], []⟩).memory 8 (Rows.sourceOperatorsRow.laid.map (·.1))).map (fun x => decide x.2.Nodup) = some true := by kernel_rfl
theorem laidC (os : Os) : (DataW.laidRun Tryz.prog ((laidWorld os).forCall (fun _ _ => 0) ⟨#[], #[.int .u8 0, .slice none 0 0], []⟩).memory 8 (Rows.sourceOperatorsRow.laid.map (·.1))).map (fun x => laidRowsB Tryz.prog ((laidWorld os).forCall (fun _ _ => 0) ⟨#[], #[.int .u8 0, .slice none 0 0], []⟩).memory x.2) = some true := by kernel_rfl
theorem laid_met (os : Os) : laidMet Tryz.prog Rows.sourceOperatorsRow.laid ((laidWorld os).forCall (fun _ _ => 0) ⟨#[], #[.int .u8 0, .slice none 0 0], []⟩).memory := by
  have a := laidA os
  have b := laidB os
  have c := laidC os
  cases hx : DataW.laidRun Tryz.prog ((laidWorld os).forCall (fun _ _ => 0) ⟨#[], #[.int .u8 0, .slice none 0 0], []⟩).memory 8 (Rows.sourceOperatorsRow.laid.map (·.1)) with
  | none => rw [hx] at a; cases a
  | some x =>
    obtain ⟨l', ps⟩ := x
    rw [hx] at a b c
    simp only [Option.map_some, Option.some.injEq] at a b c
    subst a
    exact laidMet_of_run 8 hx b c
theorem reads (os : Os) {H : Type} (enc : TypeId × Value → H) : ∃ places, DataW.whole enc Tryz.prog ((laidWorld os).forCall (fun _ _ => 0) ⟨#[], #[.int .u8 0, .slice none 0 0], []⟩).memory Tryz.f3.params.toList Rows.sourceOperatorsSpec.vars false #[Value.int .u8 0, Value.slice none 0 0].toList 8 = some ([.lit (.int .u8 0), .nil], [], places) :=
  ⟨[], by kernel_rfl⟩
end Go.Proofs.YtiljcnaeckeilaaGreatDoor.srcOps
