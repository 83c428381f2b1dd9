/-
Proved here: the law answers true at each outcome, for not.
Conditions: none beyond those that the statements name.
-/
import Derived.KernelRfl
import Derived.Test.YtiljcnaeckeilaaGreatDoorLw1a
import Derived.Test.YtiljcnaeckeilaaGreatDoorEvH
import Derived.Test.YtiljcnaeckeilaaGreatDoorBas
set_option maxRecDepth 100000
namespace Go.Ev.Tb
open Go Go.Ev Go.Proofs
namespace LwC1
noncomputable abbrev h99 : Key := .xI (.xI (.xO (.xO (.xO (.xI .xH)))))
noncomputable abbrev h121 : Key := .xI (.xO (.xO (.xI (.xI (.xI .xH)))))
noncomputable abbrev h123 : Key := .xI (.xI (.xO (.xI (.xI (.xI .xH)))))
noncomputable abbrev h132 : Key := .xO (.xO (.xI (.xO (.xO (.xO (.xO .xH))))))
noncomputable abbrev h134 : Key := .xO (.xI (.xI (.xO (.xO (.xO (.xO .xH))))))
noncomputable abbrev h136 : Key := .xO (.xO (.xO (.xI (.xO (.xO (.xO .xH))))))
noncomputable abbrev h158 : Key := .xO (.xI (.xI (.xI (.xI (.xO (.xO .xH))))))
noncomputable abbrev h162 : Key := .xO (.xI (.xO (.xO (.xO (.xI (.xO .xH))))))
noncomputable abbrev h165 : Key := .xI (.xO (.xI (.xO (.xO (.xI (.xO .xH))))))
noncomputable abbrev h169 : Key := .xI (.xO (.xO (.xI (.xO (.xI (.xO .xH))))))
noncomputable abbrev h171 : Key := .xI (.xI (.xO (.xI (.xO (.xI (.xO .xH))))))
noncomputable abbrev h172 : Key := .xO (.xO (.xI (.xI (.xO (.xI (.xO .xH))))))
noncomputable abbrev h173 : Key := .xI (.xO (.xI (.xI (.xO (.xI (.xO .xH))))))
noncomputable abbrev h176 : Key := .xO (.xO (.xO (.xO (.xI (.xI (.xO .xH))))))
noncomputable abbrev h1114 : Key := .xO (.xI (.xO (.xI (.xI (.xO (.xI (.xO (.xO (.xO .xH)))))))))
noncomputable abbrev h1119 : Key := .xI (.xI (.xI (.xI (.xI (.xO (.xI (.xO (.xO (.xO .xH)))))))))
noncomputable abbrev h1124 : Key := .xO (.xO (.xI (.xO (.xO (.xI (.xI (.xO (.xO (.xO .xH)))))))))
noncomputable abbrev h1129 : Key := .xI (.xO (.xO (.xI (.xO (.xI (.xI (.xO (.xO (.xO .xH)))))))))
noncomputable abbrev h1134 : Key := .xO (.xI (.xI (.xI (.xO (.xI (.xI (.xO (.xO (.xO .xH)))))))))
noncomputable abbrev h1136 : Key := .xO (.xO (.xO (.xO (.xI (.xI (.xI (.xO (.xO (.xO .xH)))))))))
noncomputable abbrev h1137 : Key := .xI (.xO (.xO (.xO (.xI (.xI (.xI (.xO (.xO (.xO .xH)))))))))
noncomputable abbrev h2365 : Key := .xI (.xO (.xI (.xI (.xI (.xI (.xO (.xO (.xI (.xO (.xO .xH))))))))))
noncomputable abbrev h2370 : Key := .xO (.xI (.xO (.xO (.xO (.xO (.xI (.xO (.xI (.xO (.xO .xH))))))))))
noncomputable abbrev h2375 : Key := .xI (.xI (.xI (.xO (.xO (.xO (.xI (.xO (.xI (.xO (.xO .xH))))))))))
noncomputable abbrev h2380 : Key := .xO (.xO (.xI (.xI (.xO (.xO (.xI (.xO (.xI (.xO (.xO .xH))))))))))
noncomputable abbrev h2382 : Key := .xO (.xI (.xI (.xI (.xO (.xO (.xI (.xO (.xI (.xO (.xO .xH))))))))))
noncomputable abbrev h2383 : Key := .xI (.xI (.xI (.xI (.xO (.xO (.xI (.xO (.xI (.xO (.xO .xH))))))))))
noncomputable abbrev h4755 : Key := .xI (.xI (.xO (.xO (.xI (.xO (.xO (.xI (.xO (.xI (.xO (.xO .xH)))))))))))
noncomputable abbrev h4758 : Key := .xO (.xI (.xI (.xO (.xI (.xO (.xO (.xI (.xO (.xI (.xO (.xO .xH)))))))))))
noncomputable abbrev h4763 : Key := .xI (.xI (.xO (.xI (.xI (.xO (.xO (.xI (.xO (.xI (.xO (.xO .xH)))))))))))
noncomputable abbrev h4766 : Key := .xO (.xI (.xI (.xI (.xI (.xO (.xO (.xI (.xO (.xI (.xO (.xO .xH)))))))))))
noncomputable abbrev h4767 : Key := .xI (.xI (.xI (.xI (.xI (.xO (.xO (.xI (.xO (.xI (.xO (.xO .xH)))))))))))
noncomputable abbrev h4771 : Key := .xI (.xI (.xO (.xO (.xO (.xI (.xO (.xI (.xO (.xI (.xO (.xO .xH)))))))))))
noncomputable abbrev h5010 : Key := .xO (.xI (.xO (.xO (.xI (.xO (.xO (.xI (.xI (.xI (.xO (.xO .xH)))))))))))
noncomputable abbrev h5014 : Key := .xO (.xI (.xI (.xO (.xI (.xO (.xO (.xI (.xI (.xI (.xO (.xO .xH)))))))))))
noncomputable abbrev h5021 : Key := .xI (.xO (.xI (.xI (.xI (.xO (.xO (.xI (.xI (.xI (.xO (.xO .xH)))))))))))
noncomputable abbrev h5134 : Key := .xO (.xI (.xI (.xI (.xO (.xO (.xO (.xO (.xO (.xO (.xI (.xO .xH)))))))))))
noncomputable abbrev h5139 : Key := .xI (.xI (.xO (.xO (.xI (.xO (.xO (.xO (.xO (.xO (.xI (.xO .xH)))))))))))
noncomputable abbrev h5145 : Key := .xI (.xO (.xO (.xI (.xI (.xO (.xO (.xO (.xO (.xO (.xI (.xO .xH)))))))))))
noncomputable def op0 : Ent := (216, [.int .i64 (.ofNat 3), .agg [.sym 4, .sym 5, .sym 6]], .tup [.agg [zz, zz, ee], .str 4 1954115685])
noncomputable def sumR0 : Nat → List AV → St → CR := sumT [op0, (98, [.sym 11], .sym 13)] sumX
noncomputable def r0 : HEnt := ⟨9, [.ptr h158 0, .int .i64 (.ofNat 9)], [(h99, .cells 9 [.str 1 97, .str 1 98, .str 1 99]), (h121, .cells 3 [mm, mm, mm, mm]), (h123, .cells 3 [mm, mm, mm, mm]), (h132, .cells 30 [.sli h99 0 3 (.op 1)]), (h134, .cells 22 [.sli h121 0 4 (.op 1)]), (h136, .cells 22 [.sli h123 0 4 (.op 1)]), (h158, .cells 79 [.nils, .sli h162 0 1 (.op 3), .sli h132 0 1 (.op 1), .sli h134 0 1 (.op 1), .sli h136 0 1 (.op 1), .nils, .nils, .nils, .sli h169 0 1 (.op 1), .sli h171 0 1 (.op 1), zz, .sli h4767 0 1 (.ex 1), .nils, .nils, zz, .int .i64 (.ofNat 1), zz, zz, .sli h4758 0 1 (.op 1), .sli h4755 0 1 (.ex 1), zz, zz, zz, .ptr h173 0, .sli h176 0 1 (.op 1), .sli h1137 0 1 (.op 1), .sli h2383 0 1 (.op 1), .nils]), (h162, .cells 38 [.str 4 1835100526, .nils, .sli h165 0 4 (.op 9)]), (h165, .cells 32 [.int .i64 (.ofNat 1), .str 1 97, ee, ee, ee, .nils, .sym 4, .sym 5, .sym 6, .int .i64 (.ofNat 1), .str 1 98, ee, ee, ee, .nils, .sym 7, .sym 8, .sym 9, .int .i64 (.ofNat 3), .str 1 99, .str 1 97, ee, ee, .nils, zz, zz, ee, .int .i64 (.ofNat 29), .str 1 99, ee, ee, ee, .nils, zz, zz, ee]), (h169, .cells 3 [.int .i64 (.ofNat 9)]), (h171, .cells 3 [.int .i64 (.ofNat 9)]), (h172, .map [] 0), (h173, .cells 158 [.map h172, zz]), (h176, .cells 9 [.str 4 1835100526]), (h1114, .cells 4 [.bool false, .bool false, .bool false]), (h1119, .cells 4 [.bool true, .bool false, .bool false]), (h1124, .cells 4 [.bool true, .bool false, .bool false]), (h1129, .cells 4 [.bool false, .bool false, .bool true]), (h1134, .cells 4 [.bool false, .bool false, .bool false]), (h1136, .cells 170 [.sli h1114 0 3 (.op 1), .sli h1119 0 3 (.op 1), .sli h1124 0 3 (.op 1), .sli h1129 0 3 (.op 1), .sli h1134 0 3 (.op 1)]), (h1137, .cells 103 [.sli h1136 0 5 (.op 1)]), (h2365, .cells 4 [.bool false, .bool false, .bool false]), (h2370, .cells 4 [.bool true, .bool false, .bool false]), (h2375, .cells 4 [.bool false, .bool false, .bool false]), (h2380, .cells 4 [.bool false, .bool false, .bool false]), (h2382, .cells 170 [.sli h2365 0 3 (.op 1), .sli h2370 0 3 (.op 1), .sli h2375 0 3 (.op 1), .sli h2380 0 3 (.op 1)]), (h2383, .cells 103 [.sli h2382 0 4 (.op 1)]), (h4755, .cells 3 [zz]), (h4758, .cells 3 [.int .i64 (.ofNat 9)]), (h4763, .cells 28 [zz, zz, ee, zz, zz, ee, zz, zz, ee]), (h4766, .cells 108 [zz, zz, .sli h4763 0 3 (.ex 3), .nils]), (h4767, .cells 112 [zz, zz, .sli h4766 0 1 (.ex 1)])], h4771, .int .i64 (.ofNat 3), [(h99, .cells 9 [.str 1 97, .str 1 98, .str 1 99]), (h121, .cells 3 [mm, mm, mm, mm]), (h123, .cells 3 [mm, mm, mm, mm]), (h132, .cells 30 [.sli h99 0 3 (.op 1)]), (h134, .cells 22 [.sli h121 0 4 (.op 1)]), (h136, .cells 22 [.sli h123 0 4 (.op 1)]), (h158, .cells 79 [.nils, .sli h162 0 1 (.op 3), .sli h132 0 1 (.op 1), .sli h134 0 1 (.op 1), .sli h136 0 1 (.op 1), .nils, .nils, .nils, .sli h169 0 1 (.op 1), .sli h171 0 1 (.op 1), zz, .sli h5010 0 0 (.op 3), .nils, .nils, zz, .int .i64 (.ofNat 1), mm, .int .i64 (.ofNat 3), .sli h4758 0 1 (.op 1), .sli h4755 0 1 (.ex 1), zz, zz, zz, .ptr h173 0, .sli h176 0 1 (.op 1), .sli h1137 0 1 (.op 1), .sli h2383 0 1 (.op 1), .sli h5014 0 1 (.op 6)]), (h162, .cells 38 [.str 4 1835100526, .nils, .sli h165 0 4 (.op 9)]), (h165, .cells 32 [.int .i64 (.ofNat 1), .str 1 97, ee, ee, ee, .nils, .sym 4, .sym 5, .sym 6, .int .i64 (.ofNat 1), .str 1 98, ee, ee, ee, .nils, .sym 7, .sym 8, .sym 9, .int .i64 (.ofNat 3), .str 1 99, .str 1 97, ee, ee, .nils, zz, zz, ee, .int .i64 (.ofNat 29), .str 1 99, ee, ee, ee, .nils, zz, zz, ee]), (h169, .cells 3 [.int .i64 (.ofNat 9)]), (h171, .cells 3 [.int .i64 (.ofNat 9)]), (h172, .map [] 0), (h173, .cells 158 [.map h172, zz]), (h176, .cells 9 [.str 4 1835100526]), (h1114, .cells 4 [.bool false, .bool false, .bool false]), (h1119, .cells 4 [.bool true, .bool false, .bool false]), (h1124, .cells 4 [.bool true, .bool false, .bool false]), (h1129, .cells 4 [.bool false, .bool false, .bool true]), (h1134, .cells 4 [.bool false, .bool false, .bool false]), (h1136, .cells 170 [.sli h1114 0 3 (.op 1), .sli h1119 0 3 (.op 1), .sli h1124 0 3 (.op 1), .sli h1129 0 3 (.op 1), .sli h1134 0 3 (.op 1)]), (h1137, .cells 103 [.sli h1136 0 5 (.op 1)]), (h2365, .cells 4 [.bool false, .bool false, .bool false]), (h2370, .cells 4 [.bool true, .bool false, .bool false]), (h2375, .cells 4 [.bool false, .bool false, .bool false]), (h2380, .cells 4 [.bool false, .bool false, .bool false]), (h2382, .cells 170 [.sli h2365 0 3 (.op 1), .sli h2370 0 3 (.op 1), .sli h2375 0 3 (.op 1), .sli h2380 0 3 (.op 1)]), (h2383, .cells 103 [.sli h2382 0 4 (.op 1)]), (h4755, .cells 3 [zz]), (h4758, .cells 3 [.int .i64 (.ofNat 6)]), (h4763, .cells 28 [.sym 4, .sym 5, .sym 6, zz, zz, ee, zz, zz, ee]), (h4766, .cells 108 [zz, .int .i64 (.ofNat 2), .sli h4763 0 3 (.ex 3), .nils]), (h4767, .cells 112 [zz, zz, .sli h4766 0 0 (.ex 1)]), (h5010, .cells 112 [zz, zz, .nils]), (h5014, .cells 56 [.int .i64 (.ofNat 2), zz, zz, zz, .int .i64 (.ofNat 2), .str 4 1954115685])], h5021⟩
theorem t0 : r0.ends ((cfC 1 sumR0).call r0.f r0.args r0.start) = some r0.v := by kernel_rfl
noncomputable def op3 : Ent := (216, [.int .i64 (.ofNat 3), .agg [.sym 4, .sym 5, .sym 6]], .tup [.agg [.int .i64 (.ofNat 2), zz, ee], ee])
noncomputable def sumR3 : Nat → List AV → St → CR := sumT [op3, (98, [.sym 11], .sym 13)] sumX
noncomputable def r3 : HEnt := ⟨9, [.ptr h158 0, .int .i64 (.ofNat 9)], [(h99, .cells 9 [.str 1 97, .str 1 98, .str 1 99]), (h121, .cells 3 [mm, mm, mm, mm]), (h123, .cells 3 [mm, mm, mm, mm]), (h132, .cells 30 [.sli h99 0 3 (.op 1)]), (h134, .cells 22 [.sli h121 0 4 (.op 1)]), (h136, .cells 22 [.sli h123 0 4 (.op 1)]), (h158, .cells 79 [.nils, .sli h162 0 1 (.op 3), .sli h132 0 1 (.op 1), .sli h134 0 1 (.op 1), .sli h136 0 1 (.op 1), .nils, .nils, .nils, .sli h169 0 1 (.op 1), .sli h171 0 1 (.op 1), zz, .sli h4767 0 1 (.ex 1), .nils, .nils, zz, .int .i64 (.ofNat 1), zz, zz, .sli h4758 0 1 (.op 1), .sli h4755 0 1 (.ex 1), zz, zz, zz, .ptr h173 0, .sli h176 0 1 (.op 1), .sli h1137 0 1 (.op 1), .sli h2383 0 1 (.op 1), .nils]), (h162, .cells 38 [.str 4 1835100526, .nils, .sli h165 0 4 (.op 9)]), (h165, .cells 32 [.int .i64 (.ofNat 1), .str 1 97, ee, ee, ee, .nils, .sym 4, .sym 5, .sym 6, .int .i64 (.ofNat 1), .str 1 98, ee, ee, ee, .nils, .sym 7, .sym 8, .sym 9, .int .i64 (.ofNat 3), .str 1 99, .str 1 97, ee, ee, .nils, zz, zz, ee, .int .i64 (.ofNat 29), .str 1 99, ee, ee, ee, .nils, zz, zz, ee]), (h169, .cells 3 [.int .i64 (.ofNat 9)]), (h171, .cells 3 [.int .i64 (.ofNat 9)]), (h172, .map [] 0), (h173, .cells 158 [.map h172, zz]), (h176, .cells 9 [.str 4 1835100526]), (h1114, .cells 4 [.bool false, .bool false, .bool false]), (h1119, .cells 4 [.bool true, .bool false, .bool false]), (h1124, .cells 4 [.bool true, .bool false, .bool false]), (h1129, .cells 4 [.bool false, .bool false, .bool true]), (h1134, .cells 4 [.bool false, .bool false, .bool false]), (h1136, .cells 170 [.sli h1114 0 3 (.op 1), .sli h1119 0 3 (.op 1), .sli h1124 0 3 (.op 1), .sli h1129 0 3 (.op 1), .sli h1134 0 3 (.op 1)]), (h1137, .cells 103 [.sli h1136 0 5 (.op 1)]), (h2365, .cells 4 [.bool false, .bool false, .bool false]), (h2370, .cells 4 [.bool true, .bool false, .bool false]), (h2375, .cells 4 [.bool false, .bool false, .bool false]), (h2380, .cells 4 [.bool false, .bool false, .bool false]), (h2382, .cells 170 [.sli h2365 0 3 (.op 1), .sli h2370 0 3 (.op 1), .sli h2375 0 3 (.op 1), .sli h2380 0 3 (.op 1)]), (h2383, .cells 103 [.sli h2382 0 4 (.op 1)]), (h4755, .cells 3 [zz]), (h4758, .cells 3 [.int .i64 (.ofNat 9)]), (h4763, .cells 28 [zz, zz, ee, zz, zz, ee, zz, zz, ee]), (h4766, .cells 108 [zz, zz, .sli h4763 0 3 (.ex 3), .nils]), (h4767, .cells 112 [zz, zz, .sli h4766 0 1 (.ex 1)])], h4771, .int .i64 (.ofNat 4), [(h99, .cells 9 [.str 1 97, .str 1 98, .str 1 99]), (h121, .cells 3 [mm, mm, mm, mm]), (h123, .cells 3 [mm, mm, mm, mm]), (h132, .cells 30 [.sli h99 0 3 (.op 1)]), (h134, .cells 22 [.sli h121 0 4 (.op 1)]), (h136, .cells 22 [.sli h123 0 4 (.op 1)]), (h158, .cells 79 [.nils, .sli h162 0 1 (.op 3), .sli h132 0 1 (.op 1), .sli h134 0 1 (.op 1), .sli h136 0 1 (.op 1), .nils, .nils, .nils, .sli h169 0 1 (.op 1), .sli h171 0 1 (.op 1), zz, .sli h5134 0 0 (.op 3), .nils, .nils, zz, .int .i64 (.ofNat 1), mm, .int .i64 (.ofNat 4), .sli h4758 0 1 (.op 1), .sli h4755 0 1 (.ex 1), zz, zz, zz, .ptr h173 0, .sli h176 0 1 (.op 1), .sli h1137 0 1 (.op 1), .sli h2383 0 1 (.op 1), .sli h5139 0 2 (.op 6)]), (h162, .cells 38 [.str 4 1835100526, .nils, .sli h165 0 4 (.op 9)]), (h165, .cells 32 [.int .i64 (.ofNat 1), .str 1 97, ee, ee, ee, .nils, .sym 4, .sym 5, .sym 6, .int .i64 (.ofNat 1), .str 1 98, ee, ee, ee, .nils, .sym 7, .sym 8, .sym 9, .int .i64 (.ofNat 3), .str 1 99, .str 1 97, ee, ee, .nils, zz, zz, ee, .int .i64 (.ofNat 29), .str 1 99, ee, ee, ee, .nils, zz, zz, ee]), (h169, .cells 3 [.int .i64 (.ofNat 9)]), (h171, .cells 3 [.int .i64 (.ofNat 9)]), (h172, .map [] 0), (h173, .cells 158 [.map h172, zz]), (h176, .cells 9 [.str 4 1835100526]), (h1114, .cells 4 [.bool false, .bool false, .bool false]), (h1119, .cells 4 [.bool true, .bool false, .bool false]), (h1124, .cells 4 [.bool true, .bool false, .bool false]), (h1129, .cells 4 [.bool false, .bool false, .bool true]), (h1134, .cells 4 [.bool false, .bool false, .bool false]), (h1136, .cells 170 [.sli h1114 0 3 (.op 1), .sli h1119 0 3 (.op 1), .sli h1124 0 3 (.op 1), .sli h1129 0 3 (.op 1), .sli h1134 0 3 (.op 1)]), (h1137, .cells 103 [.sli h1136 0 5 (.op 1)]), (h2365, .cells 4 [.bool false, .bool false, .bool false]), (h2370, .cells 4 [.bool true, .bool false, .bool false]), (h2375, .cells 4 [.bool false, .bool false, .bool false]), (h2380, .cells 4 [.bool false, .bool false, .bool false]), (h2382, .cells 170 [.sli h2365 0 3 (.op 1), .sli h2370 0 3 (.op 1), .sli h2375 0 3 (.op 1), .sli h2380 0 3 (.op 1)]), (h2383, .cells 103 [.sli h2382 0 4 (.op 1)]), (h4755, .cells 3 [zz]), (h4758, .cells 3 [.int .i64 (.ofNat 5)]), (h4763, .cells 28 [zz, zz, ee, zz, zz, ee, .int .i64 (.ofNat 2), zz, ee]), (h4766, .cells 108 [zz, .int .i64 (.ofNat 4), .sli h4763 0 3 (.ex 3), .nils]), (h4767, .cells 112 [zz, zz, .sli h4766 0 0 (.ex 1)]), (h5134, .cells 112 [zz, zz, .nils]), (h5139, .cells 56 [.int .i64 (.ofNat 1), zz, zz, zz, .int .i64 (.ofNat 3), .str 5 439721161573, .int .i64 (.ofNat 4), zz, zz, zz, .int .i64 (.ofNat 4), .str 3 7235948])], h5145⟩
theorem t3 : r3.ends ((cfC 1 sumR3).call r3.f r3.args r3.start) = some r3.v := by kernel_rfl
noncomputable def op4 : Ent := (216, [.int .i64 (.ofNat 3), .agg [.sym 4, .sym 5, .sym 6]], .tup [.agg [.int .i64 (.ofNat 2), .int .i64 (.ofNat 1), ee], ee])
noncomputable def sumR4 : Nat → List AV → St → CR := sumT [op4, (98, [.sym 11], .sym 13)] sumX
noncomputable def r4 : HEnt := ⟨9, [.ptr h158 0, .int .i64 (.ofNat 9)], [(h99, .cells 9 [.str 1 97, .str 1 98, .str 1 99]), (h121, .cells 3 [mm, mm, mm, mm]), (h123, .cells 3 [mm, mm, mm, mm]), (h132, .cells 30 [.sli h99 0 3 (.op 1)]), (h134, .cells 22 [.sli h121 0 4 (.op 1)]), (h136, .cells 22 [.sli h123 0 4 (.op 1)]), (h158, .cells 79 [.nils, .sli h162 0 1 (.op 3), .sli h132 0 1 (.op 1), .sli h134 0 1 (.op 1), .sli h136 0 1 (.op 1), .nils, .nils, .nils, .sli h169 0 1 (.op 1), .sli h171 0 1 (.op 1), zz, .sli h4767 0 1 (.ex 1), .nils, .nils, zz, .int .i64 (.ofNat 1), zz, zz, .sli h4758 0 1 (.op 1), .sli h4755 0 1 (.ex 1), zz, zz, zz, .ptr h173 0, .sli h176 0 1 (.op 1), .sli h1137 0 1 (.op 1), .sli h2383 0 1 (.op 1), .nils]), (h162, .cells 38 [.str 4 1835100526, .nils, .sli h165 0 4 (.op 9)]), (h165, .cells 32 [.int .i64 (.ofNat 1), .str 1 97, ee, ee, ee, .nils, .sym 4, .sym 5, .sym 6, .int .i64 (.ofNat 1), .str 1 98, ee, ee, ee, .nils, .sym 7, .sym 8, .sym 9, .int .i64 (.ofNat 3), .str 1 99, .str 1 97, ee, ee, .nils, zz, zz, ee, .int .i64 (.ofNat 29), .str 1 99, ee, ee, ee, .nils, zz, zz, ee]), (h169, .cells 3 [.int .i64 (.ofNat 9)]), (h171, .cells 3 [.int .i64 (.ofNat 9)]), (h172, .map [] 0), (h173, .cells 158 [.map h172, zz]), (h176, .cells 9 [.str 4 1835100526]), (h1114, .cells 4 [.bool false, .bool false, .bool false]), (h1119, .cells 4 [.bool true, .bool false, .bool false]), (h1124, .cells 4 [.bool true, .bool false, .bool false]), (h1129, .cells 4 [.bool false, .bool false, .bool true]), (h1134, .cells 4 [.bool false, .bool false, .bool false]), (h1136, .cells 170 [.sli h1114 0 3 (.op 1), .sli h1119 0 3 (.op 1), .sli h1124 0 3 (.op 1), .sli h1129 0 3 (.op 1), .sli h1134 0 3 (.op 1)]), (h1137, .cells 103 [.sli h1136 0 5 (.op 1)]), (h2365, .cells 4 [.bool false, .bool false, .bool false]), (h2370, .cells 4 [.bool true, .bool false, .bool false]), (h2375, .cells 4 [.bool false, .bool false, .bool false]), (h2380, .cells 4 [.bool false, .bool false, .bool false]), (h2382, .cells 170 [.sli h2365 0 3 (.op 1), .sli h2370 0 3 (.op 1), .sli h2375 0 3 (.op 1), .sli h2380 0 3 (.op 1)]), (h2383, .cells 103 [.sli h2382 0 4 (.op 1)]), (h4755, .cells 3 [zz]), (h4758, .cells 3 [.int .i64 (.ofNat 9)]), (h4763, .cells 28 [zz, zz, ee, zz, zz, ee, zz, zz, ee]), (h4766, .cells 108 [zz, zz, .sli h4763 0 3 (.ex 3), .nils]), (h4767, .cells 112 [zz, zz, .sli h4766 0 1 (.ex 1)])], h4771, .int .i64 (.ofNat 4), [(h99, .cells 9 [.str 1 97, .str 1 98, .str 1 99]), (h121, .cells 3 [mm, mm, mm, mm]), (h123, .cells 3 [mm, mm, mm, mm]), (h132, .cells 30 [.sli h99 0 3 (.op 1)]), (h134, .cells 22 [.sli h121 0 4 (.op 1)]), (h136, .cells 22 [.sli h123 0 4 (.op 1)]), (h158, .cells 79 [.nils, .sli h162 0 1 (.op 3), .sli h132 0 1 (.op 1), .sli h134 0 1 (.op 1), .sli h136 0 1 (.op 1), .nils, .nils, .nils, .sli h169 0 1 (.op 1), .sli h171 0 1 (.op 1), zz, .sli h5134 0 0 (.op 3), .nils, .nils, zz, .int .i64 (.ofNat 1), mm, .int .i64 (.ofNat 4), .sli h4758 0 1 (.op 1), .sli h4755 0 1 (.ex 1), zz, zz, zz, .ptr h173 0, .sli h176 0 1 (.op 1), .sli h1137 0 1 (.op 1), .sli h2383 0 1 (.op 1), .sli h5139 0 2 (.op 6)]), (h162, .cells 38 [.str 4 1835100526, .nils, .sli h165 0 4 (.op 9)]), (h165, .cells 32 [.int .i64 (.ofNat 1), .str 1 97, ee, ee, ee, .nils, .sym 4, .sym 5, .sym 6, .int .i64 (.ofNat 1), .str 1 98, ee, ee, ee, .nils, .sym 7, .sym 8, .sym 9, .int .i64 (.ofNat 3), .str 1 99, .str 1 97, ee, ee, .nils, zz, zz, ee, .int .i64 (.ofNat 29), .str 1 99, ee, ee, ee, .nils, zz, zz, ee]), (h169, .cells 3 [.int .i64 (.ofNat 9)]), (h171, .cells 3 [.int .i64 (.ofNat 9)]), (h172, .map [] 0), (h173, .cells 158 [.map h172, zz]), (h176, .cells 9 [.str 4 1835100526]), (h1114, .cells 4 [.bool false, .bool false, .bool false]), (h1119, .cells 4 [.bool true, .bool false, .bool false]), (h1124, .cells 4 [.bool true, .bool false, .bool false]), (h1129, .cells 4 [.bool false, .bool false, .bool true]), (h1134, .cells 4 [.bool false, .bool false, .bool false]), (h1136, .cells 170 [.sli h1114 0 3 (.op 1), .sli h1119 0 3 (.op 1), .sli h1124 0 3 (.op 1), .sli h1129 0 3 (.op 1), .sli h1134 0 3 (.op 1)]), (h1137, .cells 103 [.sli h1136 0 5 (.op 1)]), (h2365, .cells 4 [.bool false, .bool false, .bool false]), (h2370, .cells 4 [.bool true, .bool false, .bool false]), (h2375, .cells 4 [.bool false, .bool false, .bool false]), (h2380, .cells 4 [.bool false, .bool false, .bool false]), (h2382, .cells 170 [.sli h2365 0 3 (.op 1), .sli h2370 0 3 (.op 1), .sli h2375 0 3 (.op 1), .sli h2380 0 3 (.op 1)]), (h2383, .cells 103 [.sli h2382 0 4 (.op 1)]), (h4755, .cells 3 [zz]), (h4758, .cells 3 [.int .i64 (.ofNat 5)]), (h4763, .cells 28 [zz, zz, ee, zz, zz, ee, .int .i64 (.ofNat 2), .int .i64 (.ofNat 1), ee]), (h4766, .cells 108 [zz, .int .i64 (.ofNat 4), .sli h4763 0 3 (.ex 3), .nils]), (h4767, .cells 112 [zz, zz, .sli h4766 0 0 (.ex 1)]), (h5134, .cells 112 [zz, zz, .nils]), (h5139, .cells 56 [.int .i64 (.ofNat 1), zz, zz, zz, .int .i64 (.ofNat 3), .str 4 1953658213, .int .i64 (.ofNat 4), zz, zz, zz, .int .i64 (.ofNat 4), .str 3 7235948])], h5145⟩
theorem t4 : r4.ends ((cfC 1 sumR4).call r4.f r4.args r4.start) = some r4.v := by kernel_rfl
end LwC1
end Go.Ev.Tb
set_option maxRecDepth 100000
namespace Go.Ev.Tb
open Go Go.Ev Go.Proofs
namespace LwD1
noncomputable def T0 : List Ent := [(4, [], .bool true), (6, [.int .i64 (.ofNat 3), .agg [.sym 4, .sym 5, .sym 6], .agg [.sym 7, .sym 8, .sym 9]], .tup [.agg [.top, .top, .top], .top]), (7, [.int .i64 (.ofNat 3), .agg [.sym 4, .sym 5, .sym 6]], .tup [.agg [.int .i64 (.ofNat 0), .int .i64 (.ofNat 0), .str 0 0], .str 4 1954115685]), (27, [.sym 11], .sym 13)]
noncomputable def sumF0 : Nat → List AV → St → CR := sumH (LwC1.r0 :: LwV.val0 :: LwV.val1 :: LwB1.tb) (sumT T0 sumX)
theorem law0 : valOf ((cfC 1 sumF0).call 3 [.sym 0, .sym 30] ⟨.lf, .xH⟩) = some (.bool true) := by kernel_rfl
noncomputable def T3 : List Ent := [(4, [], .bool true), (6, [.int .i64 (.ofNat 3), .agg [.sym 4, .sym 5, .sym 6], .agg [.sym 7, .sym 8, .sym 9]], .tup [.agg [.top, .top, .top], .top]), (7, [.int .i64 (.ofNat 3), .agg [.sym 4, .sym 5, .sym 6]], .tup [.agg [.int .i64 (.ofNat 2), .int .i64 (.ofNat 0), .str 0 0], .str 0 0]), (27, [.sym 11], .sym 13)]
noncomputable def sumF3 : Nat → List AV → St → CR := sumH (LwC1.r3 :: LwV.val0 :: LwV.val1 :: LwB1.tb) (sumT T3 sumX)
theorem law3 : valOf ((cfC 1 sumF3).call 3 [.sym 0, .sym 30] ⟨.lf, .xH⟩) = some (.bool true) := by kernel_rfl
noncomputable def T4 : List Ent := [(4, [], .bool true), (6, [.int .i64 (.ofNat 3), .agg [.sym 4, .sym 5, .sym 6], .agg [.sym 7, .sym 8, .sym 9]], .tup [.agg [.top, .top, .top], .top]), (7, [.int .i64 (.ofNat 3), .agg [.sym 4, .sym 5, .sym 6]], .tup [.agg [.int .i64 (.ofNat 2), .int .i64 (.ofNat 1), .str 0 0], .str 0 0]), (27, [.sym 11], .sym 13)]
noncomputable def sumF4 : Nat → List AV → St → CR := sumH (LwC1.r4 :: LwV.val0 :: LwV.val1 :: LwB1.tb) (sumT T4 sumX)
theorem law4 : valOf ((cfC 1 sumF4).call 3 [.sym 0, .sym 30] ⟨.lf, .xH⟩) = some (.bool true) := by kernel_rfl
end LwD1
end Go.Ev.Tb
set_option maxRecDepth 100000
namespace Go.Ev.Tb
open Go Go.Ev Go.Proofs
namespace LwE1
section
variable {ρ : Nat → Value} {w0 : World}
theorem tbA (S : Setup ρ w0) (hR : Rho ρ 1) (hL : ∀ x ∈ [lineA, lineB], EntSem Tryz.prog ρ w0 x) : ∀ x ∈ LwA1.tb, HEntSem Tryz.prog ρ w0 x := by
  have hS := sumS_ok hL (sumX_ok S)
  intro x hx
  simp only [LwA1.tb, List.mem_cons, List.not_mem_nil, or_false] at hx
  rcases hx with rfl | rfl | rfl | rfl
  · exact (goHC_ok S.hC hR hS LwA1.t0).sem
  · exact (goHC_ok S.hC hR hS LwA1.t1).sem
  · exact (goHC_ok S.hC hR hS LwA1.t2).sem
  · exact (goHC_ok S.hC hR hS LwA1.t3).sem
theorem tbB (S : Setup ρ w0) (hR : Rho ρ 1) (hL : ∀ x ∈ [lineA, lineB], EntSem Tryz.prog ρ w0 x) : ∀ x ∈ LwB1.tb, HEntSem Tryz.prog ρ w0 x := by
  have hS := sumHS_ok (tbA S hR hL) (sumS_ok hL (sumX_ok S))
  intro x hx
  simp only [LwB1.tb, List.mem_cons, List.not_mem_nil, or_false] at hx
  rcases hx with rfl | rfl
  · exact (goHC_ok S.hC hR hS LwB1.t0).sem
  · exact (goHC_ok S.hC hR hS LwB1.t1).sem
theorem fin0 (S : Setup ρ w0) (hR : Rho ρ 1) (hL : ∀ x ∈ [lineA, lineB], EntSem Tryz.prog ρ w0 x) (h0 : HEntSem Tryz.prog ρ w0 LwV.val0) (h1 : HEntSem Tryz.prog ρ w0 LwV.val1)
    (h98 : EntSem Tryz.prog ρ w0 (98, [.sym 11], .sym 13)) (hop : EntSem Tryz.prog ρ w0 LwC1.op0) (hT : ∀ x ∈ LwD1.T0, EntSem Tryz.prog ρ w0 x) : Ans ρ w0 := by
  refine lawG S hR (goHC_ok S.hC hR (sumS_ok (t := [LwC1.op0, (98, [.sym 11], .sym 13)]) ?_ (sumX_ok S)) LwC1.t0).sem h0 h1 (tbB S hR hL) hT LwD1.law0
  intro x hx
  simp only [List.mem_cons, List.not_mem_nil, or_false] at hx
  rcases hx with rfl | rfl
  · exact hop
  · exact h98
theorem fin3 (S : Setup ρ w0) (hR : Rho ρ 1) (hL : ∀ x ∈ [lineA, lineB], EntSem Tryz.prog ρ w0 x) (h0 : HEntSem Tryz.prog ρ w0 LwV.val0) (h1 : HEntSem Tryz.prog ρ w0 LwV.val1)
    (h98 : EntSem Tryz.prog ρ w0 (98, [.sym 11], .sym 13)) (hop : EntSem Tryz.prog ρ w0 LwC1.op3) (hT : ∀ x ∈ LwD1.T3, EntSem Tryz.prog ρ w0 x) : Ans ρ w0 := by
  refine lawG S hR (goHC_ok S.hC hR (sumS_ok (t := [LwC1.op3, (98, [.sym 11], .sym 13)]) ?_ (sumX_ok S)) LwC1.t3).sem h0 h1 (tbB S hR hL) hT LwD1.law3
  intro x hx
  simp only [List.mem_cons, List.not_mem_nil, or_false] at hx
  rcases hx with rfl | rfl
  · exact hop
  · exact h98
theorem fin4 (S : Setup ρ w0) (hR : Rho ρ 1) (hL : ∀ x ∈ [lineA, lineB], EntSem Tryz.prog ρ w0 x) (h0 : HEntSem Tryz.prog ρ w0 LwV.val0) (h1 : HEntSem Tryz.prog ρ w0 LwV.val1)
    (h98 : EntSem Tryz.prog ρ w0 (98, [.sym 11], .sym 13)) (hop : EntSem Tryz.prog ρ w0 LwC1.op4) (hT : ∀ x ∈ LwD1.T4, EntSem Tryz.prog ρ w0 x) : Ans ρ w0 := by
  refine lawG S hR (goHC_ok S.hC hR (sumS_ok (t := [LwC1.op4, (98, [.sym 11], .sym 13)]) ?_ (sumX_ok S)) LwC1.t4).sem h0 h1 (tbB S hR hL) hT LwD1.law4
  intro x hx
  simp only [List.mem_cons, List.not_mem_nil, or_false] at hx
  rcases hx with rfl | rfl
  · exact hop
  · exact h98
end
end LwE1
end Go.Ev.Tb
