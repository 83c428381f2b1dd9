/-
Proved here: the row's step.
Conditions: none beyond those that the statements name.
-/
import Derived.Test.YtiljcnaeckeilaaGreatDoorLai
set_option maxRecDepth 100000
namespace Go.Proofs.YtiljcnaeckeilaaGreatDoor.srcOps
open Go Go.ChangeShapes Go.WideShapes Go.ChangeAt Go.RowKit
theorem lifted (os : Os) (started : os.Started) (H : Type) (enc : TypeId × Value → H) (F : Stop.Interp) :
    ReturnsInHanded {} Tryz.checked os 3 .any ((OpenSpec.ofChange Rows.sourceOperatorsSpec).preRow enc Tryz.prog Tryz.f3 Rows.sourceOperatorsRow.domain false Rows.sourceOperatorsRow.laid) (((OpenSpec.ofChange Rows.sourceOperatorsSpec).at F).post enc Tryz.prog Tryz.f3 false true false false) := by
  obtain ⟨places, hx⟩ := reads os enc
  refine returnsInHanded_of_row (C := Tryz.checked) (s := OpenSpec.ofChange Rows.sourceOperatorsSpec) own started (by kernel_rfl) Tryz.func3
    (witness_row_at (enc := enc) (C := Tryz.checked) false (laidWorld os) #[.int .u8 0, .slice none 0 0] rfl (by kernel_rfl) (by kernel_rfl) (by kernel_rfl)
      (OpenSpec.preRow_of_cond 8 hx (by kernel_rfl) (fun k hk => by cases hk) (by kernel_rfl) (laid_met os))) ?_
  intro W base args ds gs before hval hW _ _ hsz hL hS _
  exact contract H enc W base args ds gs before hval hW hsz hL hS
end Go.Proofs.YtiljcnaeckeilaaGreatDoor.srcOps
