/-
Proved here: sanity answers true.
Conditions: none beyond those that the statements name.
-/
import Derived.Test.YtiljcnaeckeilaaGreatDoorSnB
import Derived.Test.YtiljcnaeckeilaaGreatDoorSnC
import Derived.Test.YtiljcnaeckeilaaGreatDoorSnD
import Derived.Test.YtiljcnaeckeilaaGreatDoorSnF
set_option maxRecDepth 100000
namespace Go.Ev.Tb
open Go Go.Ev Go.Proofs
noncomputable def rnT : List Ent := [(13, [.str 32 46343393526620099457935270724889984512659884054804226534233152545085604127498, .int .i64 (.ofNat 9)], .str 12 15224305986018544612230050363), (13, [.str 40 854884719892768917166075198650473430752426498327497344086124148444878344567992568575032185217802, .int .i64 (.ofNat 9)], .str 8 3637331191222252091), (13, [.str 57 74470962157991652813028883906502648317450688258874781898493868887394967445673400049672058018815329530349507642110032964737788934748005130, .int .i64 (.ofNat 9)], .str 10 232304474508036950472251), (13, [.str 39 3339393437081128582679981244728412261992197478041297884408682062791883783931195029337230172938, .int .i64 (.ofNat 9)], .str 4 859844923)]
section
variable {ρ : Nat → Value} {w0 : World}
theorem rnT_ok (hC : Ctx Tryz.prog ρ w0) (h0 : CallOk Tryz.prog ρ w0 sum0) : ∀ x ∈ rnT, EntOk Tryz.prog ρ w0 x := by
  intro x hx
  simp only [rnT, List.mem_cons, List.not_mem_nil, or_false] at hx
  rcases hx with rfl | rfl | rfl | rfl
  · exact go_ok hC (sum1_ok hC h0) run0 rfl rfl
  · exact go_ok hC (sum1_ok hC h0) run1 rfl rfl
  · exact go_ok hC (ShB.sum_ok hC h0) ShB.run2 rfl rfl
  · exact go_ok hC (sum1_ok hC h0) run3 rfl rfl
noncomputable def sum2 : Nat → List AV → St → CR := sumT rnT sum0
theorem sum2_ok (hC : Ctx Tryz.prog ρ w0) (h0 : CallOk Tryz.prog ρ w0 sum0) : CallOk Tryz.prog ρ w0 sum2 := sumT_ok (rnT_ok hC h0) h0
theorem sanity : go sum2 4 [] = some (.bool true) := by kernel_rfl
theorem sanity_ok (hC : Ctx Tryz.prog ρ w0) (h0 : CallOk Tryz.prog ρ w0 sum0) : EntOk Tryz.prog ρ w0 (4, [], .bool true) := go_ok hC (sum2_ok hC h0) sanity rfl rfl
end
end Go.Ev.Tb
