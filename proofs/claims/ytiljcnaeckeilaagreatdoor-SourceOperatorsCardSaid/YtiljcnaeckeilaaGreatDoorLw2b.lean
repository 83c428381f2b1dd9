/-
Proved here: the law answers true at each outcome, for neg.
Conditions: none beyond those that the statements name.
-/
import Derived.KernelRfl
import Derived.Test.YtiljcnaeckeilaaGreatDoorLw2a
import Derived.Test.YtiljcnaeckeilaaGreatDoorEvH
import Derived.Test.YtiljcnaeckeilaaGreatDoorBas
set_option maxRecDepth 100000
namespace Go.Ev.Tb
open Go Go.Ev Go.Proofs
namespace LwC2
noncomputable abbrev h99 : Key := .xI (.xI (.xO (.xO (.xO (.xI .xH)))))
noncomputable abbrev h121 : Key := .xI (.xO (.xO (.xI (.xI (.xI .xH)))))
noncomputable abbrev h123 : Key := .xI (.xI (.xO (.xI (.xI (.xI .xH)))))
noncomputable abbrev h132 : Key := .xO (.xO (.xI (.xO (.xO (.xO (.xO .xH))))))
noncomputable abbrev h134 : Key := .xO (.xI (.xI (.xO (.xO (.xO (.xO .xH))))))
noncomputable abbrev h136 : Key := .xO (.xO (.xO (.xI (.xO (.xO (.xO .xH))))))
noncomputable abbrev h158 : Key := .xO (.xI (.xI (.xI (.xI (.xO (.xO .xH))))))
noncomputable abbrev h162 : Key := .xO (.xI (.xO (.xO (.xO (.xI (.xO .xH))))))
noncomputable abbrev h165 : Key := .xI (.xO (.xI (.xO (.xO (.xI (.xO .xH))))))
noncomputable abbrev h169 : Key := .xI (.xO (.xO (.xI (.xO (.xI (.xO .xH))))))
noncomputable abbrev h171 : Key := .xI (.xI (.xO (.xI (.xO (.xI (.xO .xH))))))
noncomputable abbrev h172 : Key := .xO (.xO (.xI (.xI (.xO (.xI (.xO .xH))))))
noncomputable abbrev h173 : Key := .xI (.xO (.xI (.xI (.xO (.xI (.xO .xH))))))
noncomputable abbrev h176 : Key := .xO (.xO (.xO (.xO (.xI (.xI (.xO .xH))))))
noncomputable abbrev h1114 : Key := .xO (.xI (.xO (.xI (.xI (.xO (.xI (.xO (.xO (.xO .xH)))))))))
noncomputable abbrev h1119 : Key := .xI (.xI (.xI (.xI (.xI (.xO (.xI (.xO (.xO (.xO .xH)))))))))
noncomputable abbrev h1124 : Key := .xO (.xO (.xI (.xO (.xO (.xI (.xI (.xO (.xO (.xO .xH)))))))))
noncomputable abbrev h1129 : Key := .xI (.xO (.xO (.xI (.xO (.xI (.xI (.xO (.xO (.xO .xH)))))))))
noncomputable abbrev h1134 : Key := .xO (.xI (.xI (.xI (.xO (.xI (.xI (.xO (.xO (.xO .xH)))))))))
noncomputable abbrev h1136 : Key := .xO (.xO (.xO (.xO (.xI (.xI (.xI (.xO (.xO (.xO .xH)))))))))
noncomputable abbrev h1137 : Key := .xI (.xO (.xO (.xO (.xI (.xI (.xI (.xO (.xO (.xO .xH)))))))))
noncomputable abbrev h2365 : Key := .xI (.xO (.xI (.xI (.xI (.xI (.xO (.xO (.xI (.xO (.xO .xH))))))))))
noncomputable abbrev h2370 : Key := .xO (.xI (.xO (.xO (.xO (.xO (.xI (.xO (.xI (.xO (.xO .xH))))))))))
noncomputable abbrev h2375 : Key := .xI (.xI (.xI (.xO (.xO (.xO (.xI (.xO (.xI (.xO (.xO .xH))))))))))
noncomputable abbrev h2380 : Key := .xO (.xO (.xI (.xI (.xO (.xO (.xI (.xO (.xI (.xO (.xO .xH))))))))))
noncomputable abbrev h2382 : Key := .xO (.xI (.xI (.xI (.xO (.xO (.xI (.xO (.xI (.xO (.xO .xH))))))))))
noncomputable abbrev h2383 : Key := .xI (.xI (.xI (.xI (.xO (.xO (.xI (.xO (.xI (.xO (.xO .xH))))))))))
noncomputable abbrev h4755 : Key := .xI (.xI (.xO (.xO (.xI (.xO (.xO (.xI (.xO (.xI (.xO (.xO .xH)))))))))))
noncomputable abbrev h4758 : Key := .xO (.xI (.xI (.xO (.xI (.xO (.xO (.xI (.xO (.xI (.xO (.xO .xH)))))))))))
noncomputable abbrev h4763 : Key := .xI (.xI (.xO (.xI (.xI (.xO (.xO (.xI (.xO (.xI (.xO (.xO .xH)))))))))))
noncomputable abbrev h4766 : Key := .xO (.xI (.xI (.xI (.xI (.xO (.xO (.xI (.xO (.xI (.xO (.xO .xH)))))))))))
noncomputable abbrev h4767 : Key := .xI (.xI (.xI (.xI (.xI (.xO (.xO (.xI (.xO (.xI (.xO (.xO .xH)))))))))))
noncomputable abbrev h4771 : Key := .xI (.xI (.xO (.xO (.xO (.xI (.xO (.xI (.xO (.xI (.xO (.xO .xH)))))))))))
noncomputable abbrev h5010 : Key := .xO (.xI (.xO (.xO (.xI (.xO (.xO (.xI (.xI (.xI (.xO (.xO .xH)))))))))))
noncomputable abbrev h5014 : Key := .xO (.xI (.xI (.xO (.xI (.xO (.xO (.xI (.xI (.xI (.xO (.xO .xH)))))))))))
noncomputable abbrev h5021 : Key := .xI (.xO (.xI (.xI (.xI (.xO (.xO (.xI (.xI (.xI (.xO (.xO .xH)))))))))))
noncomputable abbrev h5134 : Key := .xO (.xI (.xI (.xI (.xO (.xO (.xO (.xO (.xO (.xO (.xI (.xO .xH)))))))))))
noncomputable abbrev h5139 : Key := .xI (.xI (.xO (.xO (.xI (.xO (.xO (.xO (.xO (.xO (.xI (.xO .xH)))))))))))
noncomputable abbrev h5145 : Key := .xI (.xO (.xO (.xI (.xI (.xO (.xO (.xO (.xO (.xO (.xI (.xO .xH)))))))))))
noncomputable def op0 : Ent := (216, [.int .i64 (.ofNat 4), .agg [.sym 4, .sym 5, .sym 6]], .tup [.agg [zz, zz, ee], .str 4 1954115685])
noncomputable def sumR0 : Nat → List AV → St → CR := sumT [op0, (98, [.sym 11], .sym 13)] sumX
noncomputable def r0 : HEnt := ⟨9, [.ptr h158 0, .int .i64 (.ofNat 9)], [(h99, .cells 9 [.str 1 97, .str 1 98, .str 1 99]), (h121, .cells 3 [mm, mm, mm, mm]), (h123, .cells 3 [mm, mm, mm, mm]), (h132, .cells 30 [.sli h99 0 3 (.op 1)]), (h134, .cells 22 [.sli h121 0 4 (.op 1)]), (h136, .cells 22 [.sli h123 0 4 (.op 1)]), (h158, .cells 79 [.nils, .sli h162 0 1 (.op 3), .sli h132 0 1 (.op 1), .sli h134 0 1 (.op 1), .sli h136 0 1 (.op 1), .nils, .nils, .nils, .sli h169 0 1 (.op 1), .sli h171 0 1 (.op 1), zz, .sli h4767 0 1 (.ex 1), .nils, .nils, zz, .int .i64 (.ofNat 1), zz, zz, .sli h4758 0 1 (.op 1), .sli h4755 0 1 (.ex 1), zz, zz, zz, .ptr h173 0, .sli h176 0 1 (.op 1), .sli h1137 0 1 (.op 1), .sli h2383 0 1 (.op 1), .nils]), (h162, .cells 38 [.str 4 1835100526, .nils, .sli h165 0 4 (.op 9)]), (h165, .cells 32 [.int .i64 (.ofNat 1), .str 1 97, ee, ee, ee, .nils, .sym 4, .sym 5, .sym 6, .int .i64 (.ofNat 1), .str 1 98, ee, ee, ee, .nils, .sym 7, .sym 8, .sym 9, .int .i64 (.ofNat 4), .str 1 99, .str 1 97, ee, ee, .nils, zz, zz, ee, .int .i64 (.ofNat 29), .str 1 99, ee, ee, ee, .nils, zz, zz, ee]), (h169, .cells 3 [.int .i64 (.ofNat 9)]), (h171, .cells 3 [.int .i64 (.ofNat 9)]), (h172, .map [] 0), (h173, .cells 158 [.map h172, zz]), (h176, .cells 9 [.str 4 1835100526]), (h1114, .cells 4 [.bool false, .bool false, .bool false]), (h1119, .cells 4 [.bool true, .bool false, .bool false]), (h1124, .cells 4 [.bool true, .bool false, .bool false]), (h1129, .cells 4 [.bool false, .bool false, .bool true]), (h1134, .cells 4 [.bool false, .bool false, .bool false]), (h1136, .cells 170 [.sli h1114 0 3 (.op 1), .sli h1119 0 3 (.op 1), .sli h1124 0 3 (.op 1), .sli h1129 0 3 (.op 1), .sli h1134 0 3 (.op 1)]), (h1137, .cells 103 [.sli h1136 0 5 (.op 1)]), (h2365, .cells 4 [.bool false, .bool false, .bool false]), (h2370, .cells 4 [.bool true, .bool false, .bool false]), (h2375, .cells 4 [.bool false, .bool false, .bool false]), (h2380, .cells 4 [.bool false, .bool false, .bool false]), (h2382, .cells 170 [.sli h2365 0 3 (.op 1), .sli h2370 0 3 (.op 1), .sli h2375 0 3 (.op 1), .sli h2380 0 3 (.op 1)]), (h2383, .cells 103 [.sli h2382 0 4 (.op 1)]), (h4755, .cells 3 [zz]), (h4758, .cells 3 [.int .i64 (.ofNat 9)]), (h4763, .cells 28 [zz, zz, ee, zz, zz, ee, zz, zz, ee]), (h4766, .cells 108 [zz, zz, .sli h4763 0 3 (.ex 3), .nils]), (h4767, .cells 112 [zz, zz, .sli h4766 0 1 (.ex 1)])], h4771, .int .i64 (.ofNat 3), [(h99, .cells 9 [.str 1 97, .str 1 98, .str 1 99]), (h121, .cells 3 [mm, mm, mm, mm]), (h123, .cells 3 [mm, mm, mm, mm]), (h132, .cells 30 [.sli h99 0 3 (.op 1)]), (h134, .cells 22 [.sli h121 0 4 (.op 1)]), (h136, .cells 22 [.sli h123 0 4 (.op 1)]), (h158, .cells 79 [.nils, .sli h162 0 1 (.op 3), .sli h132 0 1 (.op 1), .sli h134 0 1 (.op 1), .sli h136 0 1 (.op 1), .nils, .nils, .nils, .sli h169 0 1 (.op 1), .sli h171 0 1 (.op 1), zz, .sli h5010 0 0 (.op 3), .nils, .nils, zz, .int .i64 (.ofNat 1), mm, .int .i64 (.ofNat 3), .sli h4758 0 1 (.op 1), .sli h4755 0 1 (.ex 1), zz, zz, zz, .ptr h173 0, .sli h176 0 1 (.op 1), .sli h1137 0 1 (.op 1), .sli h2383 0 1 (.op 1), .sli h5014 0 1 (.op 6)]), (h162, .cells 38 [.str 4 1835100526, .nils, .sli h165 0 4 (.op 9)]), (h165, .cells 32 [.int .i64 (.ofNat 1), .str 1 97, ee, ee, ee, .nils, .sym 4, .sym 5, .sym 6, .int .i64 (.ofNat 1), .str 1 98, ee, ee, ee, .nils, .sym 7, .sym 8, .sym 9, .int .i64 (.ofNat 4), .str 1 99, .str 1 97, ee, ee, .nils, zz, zz, ee, .int .i64 (.ofNat 29), .str 1 99, ee, ee, ee, .nils, zz, zz, ee]), (h169, .cells 3 [.int .i64 (.ofNat 9)]), (h171, .cells 3 [.int .i64 (.ofNat 9)]), (h172, .map [] 0), (h173, .cells 158 [.map h172, zz]), (h176, .cells 9 [.str 4 1835100526]), (h1114, .cells 4 [.bool false, .bool false, .bool false]), (h1119, .cells 4 [.bool true, .bool false, .bool false]), (h1124, .cells 4 [.bool true, .bool false, .bool false]), (h1129, .cells 4 [.bool false, .bool false, .bool true]), (h1134, .cells 4 [.bool false, .bool false, .bool false]), (h1136, .cells 170 [.sli h1114 0 3 (.op 1), .sli h1119 0 3 (.op 1), .sli h1124 0 3 (.op 1), .sli h1129 0 3 (.op 1), .sli h1134 0 3 (.op 1)]), (h1137, .cells 103 [.sli h1136 0 5 (.op 1)]), (h2365, .cells 4 [.bool false, .bool false, .bool false]), (h2370, .cells 4 [.bool true, .bool false, .bool false]), (h2375, .cells 4 [.bool false, .bool false, .bool false]), (h2380, .cells 4 [.bool false, .bool false, .bool false]), (h2382, .cells 170 [.sli h2365 0 3 (.op 1), .sli h2370 0 3 (.op 1), .sli h2375 0 3 (.op 1), .sli h2380 0 3 (.op 1)]), (h2383, .cells 103 [.sli h2382 0 4 (.op 1)]), (h4755, .cells 3 [zz]), (h4758, .cells 3 [.int .i64 (.ofNat 6)]), (h4763, .cells 28 [.sym 4, .sym 5, .sym 6, zz, zz, ee, zz, zz, ee]), (h4766, .cells 108 [zz, .int .i64 (.ofNat 2), .sli h4763 0 3 (.ex 3), .nils]), (h4767, .cells 112 [zz, zz, .sli h4766 0 0 (.ex 1)]), (h5010, .cells 112 [zz, zz, .nils]), (h5014, .cells 56 [.int .i64 (.ofNat 2), zz, zz, zz, .int .i64 (.ofNat 2), .str 4 1954115685])], h5021⟩
theorem t0 : r0.ends ((cfC 2 sumR0).call r0.f r0.args r0.start) = some r0.v := by kernel_rfl
noncomputable def op5 : Ent := (216, [.int .i64 (.ofNat 4), .agg [.sym 4, .sym 5, .sym 6]], .tup [.agg [.int .i64 (.ofNat 3), .sym 11, ee], ee])
noncomputable def sumR5 : Nat → List AV → St → CR := sumT [op5, (98, [.sym 11], .sym 13)] sumX
noncomputable def r5 : HEnt := ⟨9, [.ptr h158 0, .int .i64 (.ofNat 9)], [(h99, .cells 9 [.str 1 97, .str 1 98, .str 1 99]), (h121, .cells 3 [mm, mm, mm, mm]), (h123, .cells 3 [mm, mm, mm, mm]), (h132, .cells 30 [.sli h99 0 3 (.op 1)]), (h134, .cells 22 [.sli h121 0 4 (.op 1)]), (h136, .cells 22 [.sli h123 0 4 (.op 1)]), (h158, .cells 79 [.nils, .sli h162 0 1 (.op 3), .sli h132 0 1 (.op 1), .sli h134 0 1 (.op 1), .sli h136 0 1 (.op 1), .nils, .nils, .nils, .sli h169 0 1 (.op 1), .sli h171 0 1 (.op 1), zz, .sli h4767 0 1 (.ex 1), .nils, .nils, zz, .int .i64 (.ofNat 1), zz, zz, .sli h4758 0 1 (.op 1), .sli h4755 0 1 (.ex 1), zz, zz, zz, .ptr h173 0, .sli h176 0 1 (.op 1), .sli h1137 0 1 (.op 1), .sli h2383 0 1 (.op 1), .nils]), (h162, .cells 38 [.str 4 1835100526, .nils, .sli h165 0 4 (.op 9)]), (h165, .cells 32 [.int .i64 (.ofNat 1), .str 1 97, ee, ee, ee, .nils, .sym 4, .sym 5, .sym 6, .int .i64 (.ofNat 1), .str 1 98, ee, ee, ee, .nils, .sym 7, .sym 8, .sym 9, .int .i64 (.ofNat 4), .str 1 99, .str 1 97, ee, ee, .nils, zz, zz, ee, .int .i64 (.ofNat 29), .str 1 99, ee, ee, ee, .nils, zz, zz, ee]), (h169, .cells 3 [.int .i64 (.ofNat 9)]), (h171, .cells 3 [.int .i64 (.ofNat 9)]), (h172, .map [] 0), (h173, .cells 158 [.map h172, zz]), (h176, .cells 9 [.str 4 1835100526]), (h1114, .cells 4 [.bool false, .bool false, .bool false]), (h1119, .cells 4 [.bool true, .bool false, .bool false]), (h1124, .cells 4 [.bool true, .bool false, .bool false]), (h1129, .cells 4 [.bool false, .bool false, .bool true]), (h1134, .cells 4 [.bool false, .bool false, .bool false]), (h1136, .cells 170 [.sli h1114 0 3 (.op 1), .sli h1119 0 3 (.op 1), .sli h1124 0 3 (.op 1), .sli h1129 0 3 (.op 1), .sli h1134 0 3 (.op 1)]), (h1137, .cells 103 [.sli h1136 0 5 (.op 1)]), (h2365, .cells 4 [.bool false, .bool false, .bool false]), (h2370, .cells 4 [.bool true, .bool false, .bool false]), (h2375, .cells 4 [.bool false, .bool false, .bool false]), (h2380, .cells 4 [.bool false, .bool false, .bool false]), (h2382, .cells 170 [.sli h2365 0 3 (.op 1), .sli h2370 0 3 (.op 1), .sli h2375 0 3 (.op 1), .sli h2380 0 3 (.op 1)]), (h2383, .cells 103 [.sli h2382 0 4 (.op 1)]), (h4755, .cells 3 [zz]), (h4758, .cells 3 [.int .i64 (.ofNat 9)]), (h4763, .cells 28 [zz, zz, ee, zz, zz, ee, zz, zz, ee]), (h4766, .cells 108 [zz, zz, .sli h4763 0 3 (.ex 3), .nils]), (h4767, .cells 112 [zz, zz, .sli h4766 0 1 (.ex 1)])], h4771, .int .i64 (.ofNat 4), [(h99, .cells 9 [.str 1 97, .str 1 98, .str 1 99]), (h121, .cells 3 [mm, mm, mm, mm]), (h123, .cells 3 [mm, mm, mm, mm]), (h132, .cells 30 [.sli h99 0 3 (.op 1)]), (h134, .cells 22 [.sli h121 0 4 (.op 1)]), (h136, .cells 22 [.sli h123 0 4 (.op 1)]), (h158, .cells 79 [.nils, .sli h162 0 1 (.op 3), .sli h132 0 1 (.op 1), .sli h134 0 1 (.op 1), .sli h136 0 1 (.op 1), .nils, .nils, .nils, .sli h169 0 1 (.op 1), .sli h171 0 1 (.op 1), zz, .sli h5134 0 0 (.op 3), .nils, .nils, zz, .int .i64 (.ofNat 1), mm, .int .i64 (.ofNat 4), .sli h4758 0 1 (.op 1), .sli h4755 0 1 (.ex 1), zz, zz, zz, .ptr h173 0, .sli h176 0 1 (.op 1), .sli h1137 0 1 (.op 1), .sli h2383 0 1 (.op 1), .sli h5139 0 2 (.op 6)]), (h162, .cells 38 [.str 4 1835100526, .nils, .sli h165 0 4 (.op 9)]), (h165, .cells 32 [.int .i64 (.ofNat 1), .str 1 97, ee, ee, ee, .nils, .sym 4, .sym 5, .sym 6, .int .i64 (.ofNat 1), .str 1 98, ee, ee, ee, .nils, .sym 7, .sym 8, .sym 9, .int .i64 (.ofNat 4), .str 1 99, .str 1 97, ee, ee, .nils, zz, zz, ee, .int .i64 (.ofNat 29), .str 1 99, ee, ee, ee, .nils, zz, zz, ee]), (h169, .cells 3 [.int .i64 (.ofNat 9)]), (h171, .cells 3 [.int .i64 (.ofNat 9)]), (h172, .map [] 0), (h173, .cells 158 [.map h172, zz]), (h176, .cells 9 [.str 4 1835100526]), (h1114, .cells 4 [.bool false, .bool false, .bool false]), (h1119, .cells 4 [.bool true, .bool false, .bool false]), (h1124, .cells 4 [.bool true, .bool false, .bool false]), (h1129, .cells 4 [.bool false, .bool false, .bool true]), (h1134, .cells 4 [.bool false, .bool false, .bool false]), (h1136, .cells 170 [.sli h1114 0 3 (.op 1), .sli h1119 0 3 (.op 1), .sli h1124 0 3 (.op 1), .sli h1129 0 3 (.op 1), .sli h1134 0 3 (.op 1)]), (h1137, .cells 103 [.sli h1136 0 5 (.op 1)]), (h2365, .cells 4 [.bool false, .bool false, .bool false]), (h2370, .cells 4 [.bool true, .bool false, .bool false]), (h2375, .cells 4 [.bool false, .bool false, .bool false]), (h2380, .cells 4 [.bool false, .bool false, .bool false]), (h2382, .cells 170 [.sli h2365 0 3 (.op 1), .sli h2370 0 3 (.op 1), .sli h2375 0 3 (.op 1), .sli h2380 0 3 (.op 1)]), (h2383, .cells 103 [.sli h2382 0 4 (.op 1)]), (h4755, .cells 3 [zz]), (h4758, .cells 3 [.int .i64 (.ofNat 5)]), (h4763, .cells 28 [zz, zz, ee, zz, zz, ee, .int .i64 (.ofNat 3), .sym 11, ee]), (h4766, .cells 108 [zz, .int .i64 (.ofNat 4), .sli h4763 0 3 (.ex 3), .nils]), (h4767, .cells 112 [zz, zz, .sli h4766 0 0 (.ex 1)]), (h5134, .cells 112 [zz, zz, .nils]), (h5139, .cells 56 [.int .i64 (.ofNat 1), zz, zz, zz, .int .i64 (.ofNat 3), .sym 13, .int .i64 (.ofNat 4), zz, zz, zz, .int .i64 (.ofNat 4), .str 3 7235948])], h5145⟩
theorem t5 : r5.ends ((cfC 2 sumR5).call r5.f r5.args r5.start) = some r5.v := by kernel_rfl
end LwC2
end Go.Ev.Tb
set_option maxRecDepth 100000
namespace Go.Ev.Tb
open Go Go.Ev Go.Proofs
namespace LwD2
noncomputable def T0 : List Ent := [(4, [], .bool true), (6, [.int .i64 (.ofNat 4), .agg [.sym 4, .sym 5, .sym 6], .agg [.sym 7, .sym 8, .sym 9]], .tup [.agg [.top, .top, .top], .top]), (7, [.int .i64 (.ofNat 4), .agg [.sym 4, .sym 5, .sym 6]], .tup [.agg [.int .i64 (.ofNat 0), .int .i64 (.ofNat 0), .str 0 0], .str 4 1954115685]), (27, [.sym 11], .sym 13)]
noncomputable def sumF0 : Nat → List AV → St → CR := sumH (LwC2.r0 :: LwV.val0 :: LwV.val1 :: LwB2.tb) (sumT T0 sumX)
theorem law0 : valOf ((cfC 2 sumF0).call 3 [.sym 0, .sym 30] ⟨.lf, .xH⟩) = some (.bool true) := by kernel_rfl
noncomputable def T5 : List Ent := [(4, [], .bool true), (6, [.int .i64 (.ofNat 4), .agg [.sym 4, .sym 5, .sym 6], .agg [.sym 7, .sym 8, .sym 9]], .tup [.agg [.top, .top, .top], .top]), (7, [.int .i64 (.ofNat 4), .agg [.sym 4, .sym 5, .sym 6]], .tup [.agg [.int .i64 (.ofNat 3), .sym 11, .str 0 0], .str 0 0]), (27, [.sym 11], .sym 13)]
noncomputable def sumF5 : Nat → List AV → St → CR := sumH (LwC2.r5 :: LwV.val0 :: LwV.val1 :: LwB2.tb) (sumT T5 sumX)
theorem law5 : valOf ((cfC 2 sumF5).call 3 [.sym 0, .sym 30] ⟨.lf, .xH⟩) = some (.bool true) := by kernel_rfl
end LwD2
end Go.Ev.Tb
set_option maxRecDepth 100000
namespace Go.Ev.Tb
open Go Go.Ev Go.Proofs
namespace LwE2
section
variable {ρ : Nat → Value} {w0 : World}
theorem tbA (S : Setup ρ w0) (hR : Rho ρ 2) (hL : ∀ x ∈ [lineA, lineB], EntSem Tryz.prog ρ w0 x) : ∀ x ∈ LwA2.tb, HEntSem Tryz.prog ρ w0 x := by
  have hS := sumS_ok hL (sumX_ok S)
  intro x hx
  simp only [LwA2.tb, List.mem_cons, List.not_mem_nil, or_false] at hx
  rcases hx with rfl | rfl | rfl | rfl
  · exact (goHC_ok S.hC hR hS LwA2.t0).sem
  · exact (goHC_ok S.hC hR hS LwA2.t1).sem
  · exact (goHC_ok S.hC hR hS LwA2.t2).sem
  · exact (goHC_ok S.hC hR hS LwA2.t3).sem
theorem tbB (S : Setup ρ w0) (hR : Rho ρ 2) (hL : ∀ x ∈ [lineA, lineB], EntSem Tryz.prog ρ w0 x) : ∀ x ∈ LwB2.tb, HEntSem Tryz.prog ρ w0 x := by
  have hS := sumHS_ok (tbA S hR hL) (sumS_ok hL (sumX_ok S))
  intro x hx
  simp only [LwB2.tb, List.mem_cons, List.not_mem_nil, or_false] at hx
  rcases hx with rfl | rfl
  · exact (goHC_ok S.hC hR hS LwB2.t0).sem
  · exact (goHC_ok S.hC hR hS LwB2.t1).sem
theorem fin0 (S : Setup ρ w0) (hR : Rho ρ 2) (hL : ∀ x ∈ [lineA, lineB], EntSem Tryz.prog ρ w0 x) (h0 : HEntSem Tryz.prog ρ w0 LwV.val0) (h1 : HEntSem Tryz.prog ρ w0 LwV.val1)
    (h98 : EntSem Tryz.prog ρ w0 (98, [.sym 11], .sym 13)) (hop : EntSem Tryz.prog ρ w0 LwC2.op0) (hT : ∀ x ∈ LwD2.T0, EntSem Tryz.prog ρ w0 x) : Ans ρ w0 := by
  refine lawG S hR (goHC_ok S.hC hR (sumS_ok (t := [LwC2.op0, (98, [.sym 11], .sym 13)]) ?_ (sumX_ok S)) LwC2.t0).sem h0 h1 (tbB S hR hL) hT LwD2.law0
  intro x hx
  simp only [List.mem_cons, List.not_mem_nil, or_false] at hx
  rcases hx with rfl | rfl
  · exact hop
  · exact h98
theorem fin5 (S : Setup ρ w0) (hR : Rho ρ 2) (hL : ∀ x ∈ [lineA, lineB], EntSem Tryz.prog ρ w0 x) (h0 : HEntSem Tryz.prog ρ w0 LwV.val0) (h1 : HEntSem Tryz.prog ρ w0 LwV.val1)
    (h98 : EntSem Tryz.prog ρ w0 (98, [.sym 11], .sym 13)) (hop : EntSem Tryz.prog ρ w0 LwC2.op5) (hT : ∀ x ∈ LwD2.T5, EntSem Tryz.prog ρ w0 x) : Ans ρ w0 := by
  refine lawG S hR (goHC_ok S.hC hR (sumS_ok (t := [LwC2.op5, (98, [.sym 11], .sym 13)]) ?_ (sumX_ok S)) LwC2.t5).sem h0 h1 (tbB S hR hL) hT LwD2.law5
  intro x hx
  simp only [List.mem_cons, List.not_mem_nil, or_false] at hx
  rcases hx with rfl | rfl
  · exact hop
  · exact h98
end
end LwE2
end Go.Ev.Tb
