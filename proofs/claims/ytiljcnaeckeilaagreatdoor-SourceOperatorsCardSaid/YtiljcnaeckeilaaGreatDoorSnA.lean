/-
Proved here: sanity: its lines are read.
Conditions: none beyond those that the statements name.
-/
import Derived.KernelRfl
import Derived.Test.YtiljcnaeckeilaaGreatDoorBas
import Derived.Test.YtiljcnaeckeilaaGreatDoorEvH
set_option maxRecDepth 100000
namespace Go.Ev.Tb
open Go Go.Ev Go.Proofs
noncomputable def rv0 : AV := .tup [.agg [.int .i64 (.ofNat 1), .str 1 120, .str 0 0, .str 0 0, .str 0 0, .nils, .int .i64 (.ofNat 3), .int .i64 (.ofNat 1), .str 0 0], .bool true]
theorem rl0 : go sum0 187 [.str 5 515936952369] = some rv0 := by kernel_rfl
noncomputable def rv1 : AV := .tup [.agg [.int .i64 (.ofNat 29), .str 1 120, .str 0 0, .str 0 0, .str 0 0, .nils, .int .i64 (.ofNat 0), .int .i64 (.ofNat 0), .str 0 0], .bool true]
theorem rl1 : go sum0 187 [.str 7 31650994541830264] = some rv1 := by kernel_rfl
noncomputable def rv2 : AV := .tup [.agg [.int .i64 (.ofNat 1), .str 1 121, .str 0 0, .str 0 0, .str 0 0, .nils, .int .i64 (.ofNat 3), .int .i64 (.ofNat 0), .str 0 0], .bool true]
theorem rl2 : go sum0 187 [.str 5 520231919664] = some rv2 := by kernel_rfl
noncomputable def rv3 : AV := .tup [.agg [.int .i64 (.ofNat 8), .str 1 122, .str 1 120, .str 1 121, .str 0 0, .nils, .int .i64 (.ofNat 0), .int .i64 (.ofNat 0), .str 0 0], .bool true]
theorem rl3 : go sum0 187 [.str 9 2252825825675666464889] = some rv3 := by kernel_rfl
noncomputable def rv4 : AV := .tup [.agg [.int .i64 (.ofNat 39), .str 0 0, .str 0 0, .str 0 0, .str 0 0, .nils, .int .i64 (.ofNat 0), .int .i64 (.ofNat 0), .str 0 0], .bool true]
theorem rl4 : go sum0 187 [.str 3 7631481] = some rv4 := by kernel_rfl
noncomputable def rv5 : AV := .tup [.agg [.int .i64 (.ofNat 35), .str 1 120, .str 0 0, .str 0 0, .str 0 0, .nils, .int .i64 (.ofNat 0), .int .i64 (.ofNat 0), .str 0 0], .bool true]
theorem rl5 : go sum0 187 [.str 8 8243122740751376504] = some rv5 := by kernel_rfl
noncomputable def rv6 : AV := .tup [.agg [.int .i64 (.ofNat 41), .str 0 0, .str 0 0, .str 0 0, .str 0 0, .nils, .int .i64 (.ofNat 0), .int .i64 (.ofNat 0), .str 0 0], .bool true]
theorem rl6 : go sum0 187 [.str 7 28826370426301561] = some rv6 := by kernel_rfl
noncomputable def rv7 : AV := .tup [.agg [.int .i64 (.ofNat 42), .str 0 0, .str 0 0, .str 0 0, .str 0 0, .nils, .int .i64 (.ofNat 0), .int .i64 (.ofNat 0), .str 0 0], .bool true]
theorem rl7 : go sum0 187 [.str 3 6647396] = some rv7 := by kernel_rfl
noncomputable def rv8 : AV := .tup [.agg [.int .i64 (.ofNat 1), .str 1 120, .str 0 0, .str 0 0, .str 0 0, .nils, .int .i64 (.ofNat 2), .int .i64 (.ofNat 1), .str 0 0], .bool true]
theorem rl8 : go sum0 187 [.str 8 8655985693407999333] = some rv8 := by kernel_rfl
noncomputable def rv9 : AV := .tup [.agg [.int .i64 (.ofNat 38), .str 1 120, .str 0 0, .str 0 0, .str 0 0, .nils, .int .i64 (.ofNat 0), .int .i64 (.ofNat 0), .str 0 0], .bool true]
theorem rl9 : go sum0 187 [.str 7 33610324227989624] = some rv9 := by kernel_rfl
noncomputable def rlT : List Ent := [(187, [.str 5 515936952369], rv0), (187, [.str 7 31650994541830264], rv1), (187, [.str 5 520231919664], rv2), (187, [.str 9 2252825825675666464889], rv3), (187, [.str 3 7631481], rv4), (187, [.str 8 8243122740751376504], rv5), (187, [.str 7 28826370426301561], rv6), (187, [.str 3 6647396], rv7), (187, [.str 8 8655985693407999333], rv8), (187, [.str 7 33610324227989624], rv9)]
section
variable {ρ : Nat → Value} {w0 : World}
theorem rlT_ok (hC : Ctx Tryz.prog ρ w0) (h0 : CallOk Tryz.prog ρ w0 sum0) : ∀ x ∈ rlT, EntOk Tryz.prog ρ w0 x := by
  intro x hx
  simp only [rlT, List.mem_cons, List.not_mem_nil, or_false] at hx
  rcases hx with rfl | rfl | rfl | rfl | rfl | rfl | rfl | rfl | rfl | rfl
  · exact go_ok hC h0 rl0 rfl rfl
  · exact go_ok hC h0 rl1 rfl rfl
  · exact go_ok hC h0 rl2 rfl rfl
  · exact go_ok hC h0 rl3 rfl rfl
  · exact go_ok hC h0 rl4 rfl rfl
  · exact go_ok hC h0 rl5 rfl rfl
  · exact go_ok hC h0 rl6 rfl rfl
  · exact go_ok hC h0 rl7 rfl rfl
  · exact go_ok hC h0 rl8 rfl rfl
  · exact go_ok hC h0 rl9 rfl rfl
noncomputable def sum1 : Nat → List AV → St → CR := sumT rlT sum0
theorem sum1_ok (hC : Ctx Tryz.prog ρ w0) (h0 : CallOk Tryz.prog ρ w0 sum0) : CallOk Tryz.prog ρ w0 sum1 := sumT_ok (rlT_ok hC h0) h0
end
end Go.Ev.Tb
namespace Go.Ev.Tb
open Go Go.Ev Go.Proofs
theorem goH_ok {ρ : Nat → Value} {w0 : World} (hC : Ctx Tryz.prog ρ w0) {sum : Nat → List AV → St → CR} (hS : CallOk Tryz.prog ρ w0 sum) {x : HEnt} (h : x.ends ((cfOf sum).call x.f x.args x.start) = some x.v) : HEntOk Tryz.prog ρ w0 x :=
  ⟨_, (cfOf_ok hC hS).call, h⟩
end Go.Ev.Tb
