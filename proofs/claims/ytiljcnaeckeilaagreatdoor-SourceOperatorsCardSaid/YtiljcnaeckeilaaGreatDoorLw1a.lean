/-
Proved here: the law's program is prepared, for not.
Conditions: none beyond those that the statements name.
-/
import Derived.KernelRfl
import Derived.Test.YtiljcnaeckeilaaGreatDoorBas
set_option maxRecDepth 100000
namespace Go.Ev.Tb
open Go Go.Ev Go.Proofs
namespace LwA1
noncomputable abbrev h99 : Key := .xI (.xI (.xO (.xO (.xO (.xI .xH)))))
noncomputable abbrev h121 : Key := .xI (.xO (.xO (.xI (.xI (.xI .xH)))))
noncomputable abbrev h123 : Key := .xI (.xI (.xO (.xI (.xI (.xI .xH)))))
noncomputable abbrev h132 : Key := .xO (.xO (.xI (.xO (.xO (.xO (.xO .xH))))))
noncomputable abbrev h134 : Key := .xO (.xI (.xI (.xO (.xO (.xO (.xO .xH))))))
noncomputable abbrev h136 : Key := .xO (.xO (.xO (.xI (.xO (.xO (.xO .xH))))))
noncomputable abbrev h162 : Key := .xO (.xI (.xO (.xO (.xO (.xI (.xO .xH))))))
noncomputable abbrev h165 : Key := .xI (.xO (.xI (.xO (.xO (.xI (.xO .xH))))))
noncomputable abbrev h179 : Key := .xI (.xI (.xO (.xO (.xI (.xI (.xO .xH))))))
noncomputable abbrev h1114 : Key := .xO (.xI (.xO (.xI (.xI (.xO (.xI (.xO (.xO (.xO .xH)))))))))
noncomputable abbrev h1119 : Key := .xI (.xI (.xI (.xI (.xI (.xO (.xI (.xO (.xO (.xO .xH)))))))))
noncomputable abbrev h1124 : Key := .xO (.xO (.xI (.xO (.xO (.xI (.xI (.xO (.xO (.xO .xH)))))))))
noncomputable abbrev h1129 : Key := .xI (.xO (.xO (.xI (.xO (.xI (.xI (.xO (.xO (.xO .xH)))))))))
noncomputable abbrev h1134 : Key := .xO (.xI (.xI (.xI (.xO (.xI (.xI (.xO (.xO (.xO .xH)))))))))
noncomputable abbrev h1136 : Key := .xO (.xO (.xO (.xO (.xI (.xI (.xI (.xO (.xO (.xO .xH)))))))))
noncomputable abbrev h1137 : Key := .xI (.xO (.xO (.xO (.xI (.xI (.xI (.xO (.xO (.xO .xH)))))))))
noncomputable abbrev h1138 : Key := .xO (.xI (.xO (.xO (.xI (.xI (.xI (.xO (.xO (.xO .xH)))))))))
noncomputable abbrev h2365 : Key := .xI (.xO (.xI (.xI (.xI (.xI (.xO (.xO (.xI (.xO (.xO .xH))))))))))
noncomputable abbrev h2370 : Key := .xO (.xI (.xO (.xO (.xO (.xO (.xI (.xO (.xI (.xO (.xO .xH))))))))))
noncomputable abbrev h2375 : Key := .xI (.xI (.xI (.xO (.xO (.xO (.xI (.xO (.xI (.xO (.xO .xH))))))))))
noncomputable abbrev h2380 : Key := .xO (.xO (.xI (.xI (.xO (.xO (.xI (.xO (.xI (.xO (.xO .xH))))))))))
noncomputable abbrev h2382 : Key := .xO (.xI (.xI (.xI (.xO (.xO (.xI (.xO (.xI (.xO (.xO .xH))))))))))
noncomputable abbrev h2383 : Key := .xI (.xI (.xI (.xI (.xO (.xO (.xI (.xO (.xI (.xO (.xO .xH))))))))))
noncomputable abbrev h2470 : Key := .xO (.xI (.xI (.xO (.xO (.xI (.xO (.xI (.xI (.xO (.xO .xH))))))))))
noncomputable abbrev h2492 : Key := .xO (.xO (.xI (.xI (.xI (.xI (.xO (.xI (.xI (.xO (.xO .xH))))))))))
noncomputable abbrev h2494 : Key := .xO (.xI (.xI (.xI (.xI (.xI (.xO (.xI (.xI (.xO (.xO .xH))))))))))
noncomputable abbrev h2503 : Key := .xI (.xI (.xI (.xO (.xO (.xO (.xI (.xI (.xI (.xO (.xO .xH))))))))))
noncomputable abbrev h2505 : Key := .xI (.xO (.xO (.xI (.xO (.xO (.xI (.xI (.xI (.xO (.xO .xH))))))))))
noncomputable abbrev h2507 : Key := .xI (.xI (.xO (.xI (.xO (.xO (.xI (.xI (.xI (.xO (.xO .xH))))))))))
noncomputable abbrev h2533 : Key := .xI (.xO (.xI (.xO (.xO (.xI (.xI (.xI (.xI (.xO (.xO .xH))))))))))
noncomputable abbrev h2536 : Key := .xO (.xO (.xO (.xI (.xO (.xI (.xI (.xI (.xI (.xO (.xO .xH))))))))))
noncomputable abbrev h2550 : Key := .xO (.xI (.xI (.xO (.xI (.xI (.xI (.xI (.xI (.xO (.xO .xH))))))))))
noncomputable abbrev h3485 : Key := .xI (.xO (.xI (.xI (.xI (.xO (.xO (.xI (.xI (.xO (.xI .xH))))))))))
noncomputable abbrev h3490 : Key := .xO (.xI (.xO (.xO (.xO (.xI (.xO (.xI (.xI (.xO (.xI .xH))))))))))
noncomputable abbrev h3495 : Key := .xI (.xI (.xI (.xO (.xO (.xI (.xO (.xI (.xI (.xO (.xI .xH))))))))))
noncomputable abbrev h3500 : Key := .xO (.xO (.xI (.xI (.xO (.xI (.xO (.xI (.xI (.xO (.xI .xH))))))))))
noncomputable abbrev h3505 : Key := .xI (.xO (.xO (.xO (.xI (.xI (.xO (.xI (.xI (.xO (.xI .xH))))))))))
noncomputable abbrev h3507 : Key := .xI (.xI (.xO (.xO (.xI (.xI (.xO (.xI (.xI (.xO (.xI .xH))))))))))
noncomputable abbrev h3508 : Key := .xO (.xO (.xI (.xO (.xI (.xI (.xO (.xI (.xI (.xO (.xI .xH))))))))))
noncomputable abbrev h3509 : Key := .xI (.xO (.xI (.xO (.xI (.xI (.xO (.xI (.xI (.xO (.xI .xH))))))))))
noncomputable abbrev h4736 : Key := .xO (.xO (.xO (.xO (.xO (.xO (.xO (.xI (.xO (.xI (.xO (.xO .xH)))))))))))
noncomputable abbrev h4741 : Key := .xI (.xO (.xI (.xO (.xO (.xO (.xO (.xI (.xO (.xI (.xO (.xO .xH)))))))))))
noncomputable abbrev h4746 : Key := .xO (.xI (.xO (.xI (.xO (.xO (.xO (.xI (.xO (.xI (.xO (.xO .xH)))))))))))
noncomputable abbrev h4751 : Key := .xI (.xI (.xI (.xI (.xO (.xO (.xO (.xI (.xO (.xI (.xO (.xO .xH)))))))))))
noncomputable abbrev h4753 : Key := .xI (.xO (.xO (.xO (.xI (.xO (.xO (.xI (.xO (.xI (.xO (.xO .xH)))))))))))
noncomputable abbrev h4754 : Key := .xO (.xI (.xO (.xO (.xI (.xO (.xO (.xI (.xO (.xI (.xO (.xO .xH)))))))))))
noncomputable def e0 : HEnt := ⟨43, [.agg [.nils, .sli h162 0 1 (.op 3)], .agg [.sli h132 0 1 (.op 1), .sli h134 0 1 (.op 1), .sli h136 0 1 (.op 1)], zz], [(h99, .cells 9 [.str 1 97, .str 1 98, .str 1 99]), (h121, .cells 3 [mm, mm, mm, mm]), (h123, .cells 3 [mm, mm, mm, mm]), (h132, .cells 30 [.sli h99 0 3 (.op 1)]), (h134, .cells 22 [.sli h121 0 4 (.op 1)]), (h136, .cells 22 [.sli h123 0 4 (.op 1)]), (h162, .cells 38 [.str 4 1835100526, .nils, .sli h165 0 4 (.op 9)]), (h165, .cells 32 [.int .i64 (.ofNat 1), .str 1 97, ee, ee, ee, .nils, .sym 4, .sym 5, .sym 6, .int .i64 (.ofNat 1), .str 1 98, ee, ee, ee, .nils, .sym 7, .sym 8, .sym 9, .int .i64 (.ofNat 3), .str 1 99, .str 1 97, ee, ee, .nils, zz, zz, ee, .int .i64 (.ofNat 29), .str 1 99, ee, ee, ee, .nils, zz, zz, ee])], h179, .sli h1136 0 5 (.op 1), [(h99, .cells 9 [.str 1 97, .str 1 98, .str 1 99]), (h121, .cells 3 [mm, mm, mm, mm]), (h123, .cells 3 [mm, mm, mm, mm]), (h132, .cells 30 [.sli h99 0 3 (.op 1)]), (h134, .cells 22 [.sli h121 0 4 (.op 1)]), (h136, .cells 22 [.sli h123 0 4 (.op 1)]), (h162, .cells 38 [.str 4 1835100526, .nils, .sli h165 0 4 (.op 9)]), (h165, .cells 32 [.int .i64 (.ofNat 1), .str 1 97, ee, ee, ee, .nils, .sym 4, .sym 5, .sym 6, .int .i64 (.ofNat 1), .str 1 98, ee, ee, ee, .nils, .sym 7, .sym 8, .sym 9, .int .i64 (.ofNat 3), .str 1 99, .str 1 97, ee, ee, .nils, zz, zz, ee, .int .i64 (.ofNat 29), .str 1 99, ee, ee, ee, .nils, zz, zz, ee]), (h1114, .cells 4 [.bool false, .bool false, .bool false]), (h1119, .cells 4 [.bool true, .bool false, .bool false]), (h1124, .cells 4 [.bool true, .bool false, .bool false]), (h1129, .cells 4 [.bool false, .bool false, .bool true]), (h1134, .cells 4 [.bool false, .bool false, .bool false]), (h1136, .cells 170 [.sli h1114 0 3 (.op 1), .sli h1119 0 3 (.op 1), .sli h1124 0 3 (.op 1), .sli h1129 0 3 (.op 1), .sli h1134 0 3 (.op 1)])], h1137⟩
theorem t0 : e0.ends ((cfC 1 sumL1).call e0.f e0.args e0.start) = some e0.v := by kernel_rfl
noncomputable def e1 : HEnt := ⟨43, [.agg [.nils, .sli h2533 0 1 (.op 3)], .agg [.sli h2503 0 1 (.op 1), .sli h2505 0 1 (.op 1), .sli h2507 0 1 (.op 1)], zz], [(h2470, .cells 9 [.str 1 97, .str 1 98, .str 1 99]), (h2492, .cells 3 [mm, mm, mm, mm]), (h2494, .cells 3 [mm, mm, mm, mm]), (h2503, .cells 30 [.sli h2470 0 3 (.op 1)]), (h2505, .cells 22 [.sli h2492 0 4 (.op 1)]), (h2507, .cells 22 [.sli h2494 0 4 (.op 1)]), (h2533, .cells 38 [.str 4 1835100526, .nils, .sli h2536 0 4 (.op 9)]), (h2536, .cells 32 [.int .i64 (.ofNat 1), .str 1 97, ee, ee, ee, .nils, .sym 4, .sym 5, .sym 6, .int .i64 (.ofNat 1), .str 1 98, ee, ee, ee, .nils, .sym 7, .sym 8, .sym 9, .int .i64 (.ofNat 3), .str 1 99, .str 1 97, ee, ee, .nils, zz, zz, ee, .int .i64 (.ofNat 29), .str 1 99, ee, ee, ee, .nils, zz, zz, ee])], h2550, .sli h3507 0 5 (.op 1), [(h2470, .cells 9 [.str 1 97, .str 1 98, .str 1 99]), (h2492, .cells 3 [mm, mm, mm, mm]), (h2494, .cells 3 [mm, mm, mm, mm]), (h2503, .cells 30 [.sli h2470 0 3 (.op 1)]), (h2505, .cells 22 [.sli h2492 0 4 (.op 1)]), (h2507, .cells 22 [.sli h2494 0 4 (.op 1)]), (h2533, .cells 38 [.str 4 1835100526, .nils, .sli h2536 0 4 (.op 9)]), (h2536, .cells 32 [.int .i64 (.ofNat 1), .str 1 97, ee, ee, ee, .nils, .sym 4, .sym 5, .sym 6, .int .i64 (.ofNat 1), .str 1 98, ee, ee, ee, .nils, .sym 7, .sym 8, .sym 9, .int .i64 (.ofNat 3), .str 1 99, .str 1 97, ee, ee, .nils, zz, zz, ee, .int .i64 (.ofNat 29), .str 1 99, ee, ee, ee, .nils, zz, zz, ee]), (h3485, .cells 4 [.bool false, .bool false, .bool false]), (h3490, .cells 4 [.bool true, .bool false, .bool false]), (h3495, .cells 4 [.bool true, .bool false, .bool false]), (h3500, .cells 4 [.bool false, .bool false, .bool true]), (h3505, .cells 4 [.bool false, .bool false, .bool false]), (h3507, .cells 170 [.sli h3485 0 3 (.op 1), .sli h3490 0 3 (.op 1), .sli h3495 0 3 (.op 1), .sli h3500 0 3 (.op 1), .sli h3505 0 3 (.op 1)])], h3508⟩
theorem t1 : e1.ends ((cfC 1 sumL1).call e1.f e1.args e1.start) = some e1.v := by kernel_rfl
noncomputable def e2 : HEnt := ⟨44, [.agg [.nils, .sli h162 0 1 (.op 3)], .agg [.sli h132 0 1 (.op 1), .sli h134 0 1 (.op 1), .sli h136 0 1 (.op 1)], zz], [(h99, .cells 9 [.str 1 97, .str 1 98, .str 1 99]), (h121, .cells 3 [mm, mm, mm, mm]), (h123, .cells 3 [mm, mm, mm, mm]), (h132, .cells 30 [.sli h99 0 3 (.op 1)]), (h134, .cells 22 [.sli h121 0 4 (.op 1)]), (h136, .cells 22 [.sli h123 0 4 (.op 1)]), (h162, .cells 38 [.str 4 1835100526, .nils, .sli h165 0 4 (.op 9)]), (h165, .cells 32 [.int .i64 (.ofNat 1), .str 1 97, ee, ee, ee, .nils, .sym 4, .sym 5, .sym 6, .int .i64 (.ofNat 1), .str 1 98, ee, ee, ee, .nils, .sym 7, .sym 8, .sym 9, .int .i64 (.ofNat 3), .str 1 99, .str 1 97, ee, ee, .nils, zz, zz, ee, .int .i64 (.ofNat 29), .str 1 99, ee, ee, ee, .nils, zz, zz, ee])], h1138, .sli h2382 0 4 (.op 1), [(h99, .cells 9 [.str 1 97, .str 1 98, .str 1 99]), (h121, .cells 3 [mm, mm, mm, mm]), (h123, .cells 3 [mm, mm, mm, mm]), (h132, .cells 30 [.sli h99 0 3 (.op 1)]), (h134, .cells 22 [.sli h121 0 4 (.op 1)]), (h136, .cells 22 [.sli h123 0 4 (.op 1)]), (h162, .cells 38 [.str 4 1835100526, .nils, .sli h165 0 4 (.op 9)]), (h165, .cells 32 [.int .i64 (.ofNat 1), .str 1 97, ee, ee, ee, .nils, .sym 4, .sym 5, .sym 6, .int .i64 (.ofNat 1), .str 1 98, ee, ee, ee, .nils, .sym 7, .sym 8, .sym 9, .int .i64 (.ofNat 3), .str 1 99, .str 1 97, ee, ee, .nils, zz, zz, ee, .int .i64 (.ofNat 29), .str 1 99, ee, ee, ee, .nils, zz, zz, ee]), (h2365, .cells 4 [.bool false, .bool false, .bool false]), (h2370, .cells 4 [.bool true, .bool false, .bool false]), (h2375, .cells 4 [.bool false, .bool false, .bool false]), (h2380, .cells 4 [.bool false, .bool false, .bool false]), (h2382, .cells 170 [.sli h2365 0 3 (.op 1), .sli h2370 0 3 (.op 1), .sli h2375 0 3 (.op 1), .sli h2380 0 3 (.op 1)])], h2383⟩
theorem t2 : e2.ends ((cfC 1 sumL1).call e2.f e2.args e2.start) = some e2.v := by kernel_rfl
noncomputable def e3 : HEnt := ⟨44, [.agg [.nils, .sli h2533 0 1 (.op 3)], .agg [.sli h2503 0 1 (.op 1), .sli h2505 0 1 (.op 1), .sli h2507 0 1 (.op 1)], zz], [(h2470, .cells 9 [.str 1 97, .str 1 98, .str 1 99]), (h2492, .cells 3 [mm, mm, mm, mm]), (h2494, .cells 3 [mm, mm, mm, mm]), (h2503, .cells 30 [.sli h2470 0 3 (.op 1)]), (h2505, .cells 22 [.sli h2492 0 4 (.op 1)]), (h2507, .cells 22 [.sli h2494 0 4 (.op 1)]), (h2533, .cells 38 [.str 4 1835100526, .nils, .sli h2536 0 4 (.op 9)]), (h2536, .cells 32 [.int .i64 (.ofNat 1), .str 1 97, ee, ee, ee, .nils, .sym 4, .sym 5, .sym 6, .int .i64 (.ofNat 1), .str 1 98, ee, ee, ee, .nils, .sym 7, .sym 8, .sym 9, .int .i64 (.ofNat 3), .str 1 99, .str 1 97, ee, ee, .nils, zz, zz, ee, .int .i64 (.ofNat 29), .str 1 99, ee, ee, ee, .nils, zz, zz, ee])], h3509, .sli h4753 0 4 (.op 1), [(h2470, .cells 9 [.str 1 97, .str 1 98, .str 1 99]), (h2492, .cells 3 [mm, mm, mm, mm]), (h2494, .cells 3 [mm, mm, mm, mm]), (h2503, .cells 30 [.sli h2470 0 3 (.op 1)]), (h2505, .cells 22 [.sli h2492 0 4 (.op 1)]), (h2507, .cells 22 [.sli h2494 0 4 (.op 1)]), (h2533, .cells 38 [.str 4 1835100526, .nils, .sli h2536 0 4 (.op 9)]), (h2536, .cells 32 [.int .i64 (.ofNat 1), .str 1 97, ee, ee, ee, .nils, .sym 4, .sym 5, .sym 6, .int .i64 (.ofNat 1), .str 1 98, ee, ee, ee, .nils, .sym 7, .sym 8, .sym 9, .int .i64 (.ofNat 3), .str 1 99, .str 1 97, ee, ee, .nils, zz, zz, ee, .int .i64 (.ofNat 29), .str 1 99, ee, ee, ee, .nils, zz, zz, ee]), (h4736, .cells 4 [.bool false, .bool false, .bool false]), (h4741, .cells 4 [.bool true, .bool false, .bool false]), (h4746, .cells 4 [.bool false, .bool false, .bool false]), (h4751, .cells 4 [.bool false, .bool false, .bool false]), (h4753, .cells 170 [.sli h4736 0 3 (.op 1), .sli h4741 0 3 (.op 1), .sli h4746 0 3 (.op 1), .sli h4751 0 3 (.op 1)])], h4754⟩
theorem t3 : e3.ends ((cfC 1 sumL1).call e3.f e3.args e3.start) = some e3.v := by kernel_rfl
noncomputable def tb : List HEnt := [e0, e1, e2, e3]
noncomputable def sum : Nat → List AV → St → CR := sumH tb sumL1
end LwA1
end Go.Ev.Tb
set_option maxRecDepth 100000
namespace Go.Ev.Tb
open Go Go.Ev Go.Proofs
namespace LwB1
noncomputable abbrev h8 : Key := .xO (.xO (.xO .xH))
noncomputable abbrev h10 : Key := .xO (.xI (.xO .xH))
noncomputable abbrev h12 : Key := .xO (.xO (.xI .xH))
noncomputable abbrev h13 : Key := .xI (.xO (.xI .xH))
noncomputable abbrev h16 : Key := .xO (.xO (.xO (.xO .xH)))
noncomputable abbrev h99 : Key := .xI (.xI (.xO (.xO (.xO (.xI .xH)))))
noncomputable abbrev h121 : Key := .xI (.xO (.xO (.xI (.xI (.xI .xH)))))
noncomputable abbrev h123 : Key := .xI (.xI (.xO (.xI (.xI (.xI .xH)))))
noncomputable abbrev h132 : Key := .xO (.xO (.xI (.xO (.xO (.xO (.xO .xH))))))
noncomputable abbrev h134 : Key := .xO (.xI (.xI (.xO (.xO (.xO (.xO .xH))))))
noncomputable abbrev h136 : Key := .xO (.xO (.xO (.xI (.xO (.xO (.xO .xH))))))
noncomputable abbrev h158 : Key := .xO (.xI (.xI (.xI (.xI (.xO (.xO .xH))))))
noncomputable abbrev h162 : Key := .xO (.xI (.xO (.xO (.xO (.xI (.xO .xH))))))
noncomputable abbrev h165 : Key := .xI (.xO (.xI (.xO (.xO (.xI (.xO .xH))))))
noncomputable abbrev h169 : Key := .xI (.xO (.xO (.xI (.xO (.xI (.xO .xH))))))
noncomputable abbrev h171 : Key := .xI (.xI (.xO (.xI (.xO (.xI (.xO .xH))))))
noncomputable abbrev h172 : Key := .xO (.xO (.xI (.xI (.xO (.xI (.xO .xH))))))
noncomputable abbrev h173 : Key := .xI (.xO (.xI (.xI (.xO (.xI (.xO .xH))))))
noncomputable abbrev h176 : Key := .xO (.xO (.xO (.xO (.xI (.xI (.xO .xH))))))
noncomputable abbrev h1114 : Key := .xO (.xI (.xO (.xI (.xI (.xO (.xI (.xO (.xO (.xO .xH)))))))))
noncomputable abbrev h1119 : Key := .xI (.xI (.xI (.xI (.xI (.xO (.xI (.xO (.xO (.xO .xH)))))))))
noncomputable abbrev h1124 : Key := .xO (.xO (.xI (.xO (.xO (.xI (.xI (.xO (.xO (.xO .xH)))))))))
noncomputable abbrev h1129 : Key := .xI (.xO (.xO (.xI (.xO (.xI (.xI (.xO (.xO (.xO .xH)))))))))
noncomputable abbrev h1134 : Key := .xO (.xI (.xI (.xI (.xO (.xI (.xI (.xO (.xO (.xO .xH)))))))))
noncomputable abbrev h1136 : Key := .xO (.xO (.xO (.xO (.xI (.xI (.xI (.xO (.xO (.xO .xH)))))))))
noncomputable abbrev h1137 : Key := .xI (.xO (.xO (.xO (.xI (.xI (.xI (.xO (.xO (.xO .xH)))))))))
noncomputable abbrev h2365 : Key := .xI (.xO (.xI (.xI (.xI (.xI (.xO (.xO (.xI (.xO (.xO .xH))))))))))
noncomputable abbrev h2370 : Key := .xO (.xI (.xO (.xO (.xO (.xO (.xI (.xO (.xI (.xO (.xO .xH))))))))))
noncomputable abbrev h2375 : Key := .xI (.xI (.xI (.xO (.xO (.xO (.xI (.xO (.xI (.xO (.xO .xH))))))))))
noncomputable abbrev h2380 : Key := .xO (.xO (.xI (.xI (.xO (.xO (.xI (.xO (.xI (.xO (.xO .xH))))))))))
noncomputable abbrev h2382 : Key := .xO (.xI (.xI (.xI (.xO (.xO (.xI (.xO (.xI (.xO (.xO .xH))))))))))
noncomputable abbrev h2383 : Key := .xI (.xI (.xI (.xI (.xO (.xO (.xI (.xO (.xI (.xO (.xO .xH))))))))))
noncomputable abbrev h2384 : Key := .xO (.xO (.xO (.xO (.xI (.xO (.xI (.xO (.xI (.xO (.xO .xH))))))))))
noncomputable abbrev h2387 : Key := .xI (.xI (.xO (.xO (.xI (.xO (.xI (.xO (.xI (.xO (.xO .xH))))))))))
noncomputable abbrev h2470 : Key := .xO (.xI (.xI (.xO (.xO (.xI (.xO (.xI (.xI (.xO (.xO .xH))))))))))
noncomputable abbrev h2492 : Key := .xO (.xO (.xI (.xI (.xI (.xI (.xO (.xI (.xI (.xO (.xO .xH))))))))))
noncomputable abbrev h2494 : Key := .xO (.xI (.xI (.xI (.xI (.xI (.xO (.xI (.xI (.xO (.xO .xH))))))))))
noncomputable abbrev h2503 : Key := .xI (.xI (.xI (.xO (.xO (.xO (.xI (.xI (.xI (.xO (.xO .xH))))))))))
noncomputable abbrev h2505 : Key := .xI (.xO (.xO (.xI (.xO (.xO (.xI (.xI (.xI (.xO (.xO .xH))))))))))
noncomputable abbrev h2507 : Key := .xI (.xI (.xO (.xI (.xO (.xO (.xI (.xI (.xI (.xO (.xO .xH))))))))))
noncomputable abbrev h2529 : Key := .xI (.xO (.xO (.xO (.xO (.xI (.xI (.xI (.xI (.xO (.xO .xH))))))))))
noncomputable abbrev h2533 : Key := .xI (.xO (.xI (.xO (.xO (.xI (.xI (.xI (.xI (.xO (.xO .xH))))))))))
noncomputable abbrev h2536 : Key := .xO (.xO (.xO (.xI (.xO (.xI (.xI (.xI (.xI (.xO (.xO .xH))))))))))
noncomputable abbrev h2540 : Key := .xO (.xO (.xI (.xI (.xO (.xI (.xI (.xI (.xI (.xO (.xO .xH))))))))))
noncomputable abbrev h2542 : Key := .xO (.xI (.xI (.xI (.xO (.xI (.xI (.xI (.xI (.xO (.xO .xH))))))))))
noncomputable abbrev h2543 : Key := .xI (.xI (.xI (.xI (.xO (.xI (.xI (.xI (.xI (.xO (.xO .xH))))))))))
noncomputable abbrev h2544 : Key := .xO (.xO (.xO (.xO (.xI (.xI (.xI (.xI (.xI (.xO (.xO .xH))))))))))
noncomputable abbrev h2547 : Key := .xI (.xI (.xO (.xO (.xI (.xI (.xI (.xI (.xI (.xO (.xO .xH))))))))))
noncomputable abbrev h3485 : Key := .xI (.xO (.xI (.xI (.xI (.xO (.xO (.xI (.xI (.xO (.xI .xH))))))))))
noncomputable abbrev h3490 : Key := .xO (.xI (.xO (.xO (.xO (.xI (.xO (.xI (.xI (.xO (.xI .xH))))))))))
noncomputable abbrev h3495 : Key := .xI (.xI (.xI (.xO (.xO (.xI (.xO (.xI (.xI (.xO (.xI .xH))))))))))
noncomputable abbrev h3500 : Key := .xO (.xO (.xI (.xI (.xO (.xI (.xO (.xI (.xI (.xO (.xI .xH))))))))))
noncomputable abbrev h3505 : Key := .xI (.xO (.xO (.xO (.xI (.xI (.xO (.xI (.xI (.xO (.xI .xH))))))))))
noncomputable abbrev h3507 : Key := .xI (.xI (.xO (.xO (.xI (.xI (.xO (.xI (.xI (.xO (.xI .xH))))))))))
noncomputable abbrev h3508 : Key := .xO (.xO (.xI (.xO (.xI (.xI (.xO (.xI (.xI (.xO (.xI .xH))))))))))
noncomputable abbrev h4736 : Key := .xO (.xO (.xO (.xO (.xO (.xO (.xO (.xI (.xO (.xI (.xO (.xO .xH)))))))))))
noncomputable abbrev h4741 : Key := .xI (.xO (.xI (.xO (.xO (.xO (.xO (.xI (.xO (.xI (.xO (.xO .xH)))))))))))
noncomputable abbrev h4746 : Key := .xO (.xI (.xO (.xI (.xO (.xO (.xO (.xI (.xO (.xI (.xO (.xO .xH)))))))))))
noncomputable abbrev h4751 : Key := .xI (.xI (.xI (.xI (.xO (.xO (.xO (.xI (.xO (.xI (.xO (.xO .xH)))))))))))
noncomputable abbrev h4753 : Key := .xI (.xO (.xO (.xO (.xI (.xO (.xO (.xI (.xO (.xI (.xO (.xO .xH)))))))))))
noncomputable abbrev h4754 : Key := .xO (.xI (.xO (.xO (.xI (.xO (.xO (.xI (.xO (.xI (.xO (.xO .xH)))))))))))
noncomputable abbrev h4755 : Key := .xI (.xI (.xO (.xO (.xI (.xO (.xO (.xI (.xO (.xI (.xO (.xO .xH)))))))))))
noncomputable def e0 : HEnt := ⟨20, [.agg [.nils, .sli h10 0 1 (.ex 1)], .agg [.nils, .nils, .nils, .sli h12 0 1 (.ex 1), .sli h13 0 1 (.ex 1), zz]], [(h8, .cells 32 [.int .i64 (.ofNat 1), .str 1 97, ee, ee, ee, .nils, .sym 4, .sym 5, .sym 6, .int .i64 (.ofNat 1), .str 1 98, ee, ee, ee, .nils, .sym 7, .sym 8, .sym 9, .int .i64 (.ofNat 3), .str 1 99, .str 1 97, ee, ee, .nils, zz, zz, ee, .int .i64 (.ofNat 29), .str 1 99, ee, ee, ee, .nils, zz, zz, ee]), (h10, .cells 38 [.str 4 1835100526, .nils, .sli h8 0 4 (.ex 4)]), (h12, .cells 3 [.int .i64 (.ofNat 9)]), (h13, .cells 3 [.int .i64 (.ofNat 9)])], h16, .tup [.ptr h158 0, zz], [(h8, .cells 32 [.int .i64 (.ofNat 1), .str 1 97, ee, ee, ee, .nils, .sym 4, .sym 5, .sym 6, .int .i64 (.ofNat 1), .str 1 98, ee, ee, ee, .nils, .sym 7, .sym 8, .sym 9, .int .i64 (.ofNat 3), .str 1 99, .str 1 97, ee, ee, .nils, zz, zz, ee, .int .i64 (.ofNat 29), .str 1 99, ee, ee, ee, .nils, zz, zz, ee]), (h10, .cells 38 [.str 4 1835100526, .nils, .sli h8 0 4 (.ex 4)]), (h12, .cells 3 [.int .i64 (.ofNat 9)]), (h13, .cells 3 [.int .i64 (.ofNat 9)]), (h99, .cells 9 [.str 1 97, .str 1 98, .str 1 99]), (h121, .cells 3 [mm, mm, mm, mm]), (h123, .cells 3 [mm, mm, mm, mm]), (h132, .cells 30 [.sli h99 0 3 (.op 1)]), (h134, .cells 22 [.sli h121 0 4 (.op 1)]), (h136, .cells 22 [.sli h123 0 4 (.op 1)]), (h158, .cells 79 [.nils, .sli h162 0 1 (.op 3), .sli h132 0 1 (.op 1), .sli h134 0 1 (.op 1), .sli h136 0 1 (.op 1), .nils, .nils, .nils, .sli h169 0 1 (.op 1), .sli h171 0 1 (.op 1), zz, .nils, .nils, .nils, zz, zz, zz, zz, .nils, .nils, zz, zz, zz, .ptr h173 0, .sli h176 0 1 (.op 1), .sli h1137 0 1 (.op 1), .sli h2383 0 1 (.op 1), .nils]), (h162, .cells 38 [.str 4 1835100526, .nils, .sli h165 0 4 (.op 9)]), (h165, .cells 32 [.int .i64 (.ofNat 1), .str 1 97, ee, ee, ee, .nils, .sym 4, .sym 5, .sym 6, .int .i64 (.ofNat 1), .str 1 98, ee, ee, ee, .nils, .sym 7, .sym 8, .sym 9, .int .i64 (.ofNat 3), .str 1 99, .str 1 97, ee, ee, .nils, zz, zz, ee, .int .i64 (.ofNat 29), .str 1 99, ee, ee, ee, .nils, zz, zz, ee]), (h169, .cells 3 [.int .i64 (.ofNat 9)]), (h171, .cells 3 [.int .i64 (.ofNat 9)]), (h172, .map [] 0), (h173, .cells 158 [.map h172, zz]), (h176, .cells 9 [.str 4 1835100526]), (h1114, .cells 4 [.bool false, .bool false, .bool false]), (h1119, .cells 4 [.bool true, .bool false, .bool false]), (h1124, .cells 4 [.bool true, .bool false, .bool false]), (h1129, .cells 4 [.bool false, .bool false, .bool true]), (h1134, .cells 4 [.bool false, .bool false, .bool false]), (h1136, .cells 170 [.sli h1114 0 3 (.op 1), .sli h1119 0 3 (.op 1), .sli h1124 0 3 (.op 1), .sli h1129 0 3 (.op 1), .sli h1134 0 3 (.op 1)]), (h1137, .cells 103 [.sli h1136 0 5 (.op 1)]), (h2365, .cells 4 [.bool false, .bool false, .bool false]), (h2370, .cells 4 [.bool true, .bool false, .bool false]), (h2375, .cells 4 [.bool false, .bool false, .bool false]), (h2380, .cells 4 [.bool false, .bool false, .bool false]), (h2382, .cells 170 [.sli h2365 0 3 (.op 1), .sli h2370 0 3 (.op 1), .sli h2375 0 3 (.op 1), .sli h2380 0 3 (.op 1)]), (h2383, .cells 103 [.sli h2382 0 4 (.op 1)])], h2384⟩
theorem t0 : e0.ends ((cfC 1 LwA1.sum).call e0.f e0.args e0.start) = some e0.v := by kernel_rfl
noncomputable def e1 : HEnt := ⟨20, [.agg [.nils, .sli h10 0 1 (.ex 1)], .agg [.nils, .nils, .nils, .sli h12 0 1 (.ex 1), .sli h13 0 1 (.ex 1), zz]], [(h8, .cells 32 [.int .i64 (.ofNat 1), .str 1 97, ee, ee, ee, .nils, .sym 4, .sym 5, .sym 6, .int .i64 (.ofNat 1), .str 1 98, ee, ee, ee, .nils, .sym 7, .sym 8, .sym 9, .int .i64 (.ofNat 3), .str 1 99, .str 1 97, ee, ee, .nils, zz, zz, ee, .int .i64 (.ofNat 29), .str 1 99, ee, ee, ee, .nils, zz, zz, ee]), (h10, .cells 38 [.str 4 1835100526, .nils, .sli h8 0 4 (.ex 4)]), (h12, .cells 3 [.int .i64 (.ofNat 9)]), (h13, .cells 3 [.int .i64 (.ofNat 9)])], h2387, .tup [.ptr h2529 0, zz], [(h8, .cells 32 [.int .i64 (.ofNat 1), .str 1 97, ee, ee, ee, .nils, .sym 4, .sym 5, .sym 6, .int .i64 (.ofNat 1), .str 1 98, ee, ee, ee, .nils, .sym 7, .sym 8, .sym 9, .int .i64 (.ofNat 3), .str 1 99, .str 1 97, ee, ee, .nils, zz, zz, ee, .int .i64 (.ofNat 29), .str 1 99, ee, ee, ee, .nils, zz, zz, ee]), (h10, .cells 38 [.str 4 1835100526, .nils, .sli h8 0 4 (.ex 4)]), (h12, .cells 3 [.int .i64 (.ofNat 9)]), (h13, .cells 3 [.int .i64 (.ofNat 9)]), (h2470, .cells 9 [.str 1 97, .str 1 98, .str 1 99]), (h2492, .cells 3 [mm, mm, mm, mm]), (h2494, .cells 3 [mm, mm, mm, mm]), (h2503, .cells 30 [.sli h2470 0 3 (.op 1)]), (h2505, .cells 22 [.sli h2492 0 4 (.op 1)]), (h2507, .cells 22 [.sli h2494 0 4 (.op 1)]), (h2529, .cells 79 [.nils, .sli h2533 0 1 (.op 3), .sli h2503 0 1 (.op 1), .sli h2505 0 1 (.op 1), .sli h2507 0 1 (.op 1), .nils, .nils, .nils, .sli h2540 0 1 (.op 1), .sli h2542 0 1 (.op 1), zz, .nils, .nils, .nils, zz, zz, zz, zz, .nils, .nils, zz, zz, zz, .ptr h2544 0, .sli h2547 0 1 (.op 1), .sli h3508 0 1 (.op 1), .sli h4754 0 1 (.op 1), .nils]), (h2533, .cells 38 [.str 4 1835100526, .nils, .sli h2536 0 4 (.op 9)]), (h2536, .cells 32 [.int .i64 (.ofNat 1), .str 1 97, ee, ee, ee, .nils, .sym 4, .sym 5, .sym 6, .int .i64 (.ofNat 1), .str 1 98, ee, ee, ee, .nils, .sym 7, .sym 8, .sym 9, .int .i64 (.ofNat 3), .str 1 99, .str 1 97, ee, ee, .nils, zz, zz, ee, .int .i64 (.ofNat 29), .str 1 99, ee, ee, ee, .nils, zz, zz, ee]), (h2540, .cells 3 [.int .i64 (.ofNat 9)]), (h2542, .cells 3 [.int .i64 (.ofNat 9)]), (h2543, .map [] 0), (h2544, .cells 158 [.map h2543, zz]), (h2547, .cells 9 [.str 4 1835100526]), (h3485, .cells 4 [.bool false, .bool false, .bool false]), (h3490, .cells 4 [.bool true, .bool false, .bool false]), (h3495, .cells 4 [.bool true, .bool false, .bool false]), (h3500, .cells 4 [.bool false, .bool false, .bool true]), (h3505, .cells 4 [.bool false, .bool false, .bool false]), (h3507, .cells 170 [.sli h3485 0 3 (.op 1), .sli h3490 0 3 (.op 1), .sli h3495 0 3 (.op 1), .sli h3500 0 3 (.op 1), .sli h3505 0 3 (.op 1)]), (h3508, .cells 103 [.sli h3507 0 5 (.op 1)]), (h4736, .cells 4 [.bool false, .bool false, .bool false]), (h4741, .cells 4 [.bool true, .bool false, .bool false]), (h4746, .cells 4 [.bool false, .bool false, .bool false]), (h4751, .cells 4 [.bool false, .bool false, .bool false]), (h4753, .cells 170 [.sli h4736 0 3 (.op 1), .sli h4741 0 3 (.op 1), .sli h4746 0 3 (.op 1), .sli h4751 0 3 (.op 1)]), (h4754, .cells 103 [.sli h4753 0 4 (.op 1)])], h4755⟩
theorem t1 : e1.ends ((cfC 1 LwA1.sum).call e1.f e1.args e1.start) = some e1.v := by kernel_rfl
noncomputable def tb : List HEnt := [e0, e1]
noncomputable def sum : Nat → List AV → St → CR := sumH tb LwA1.sum
end LwB1
end Go.Ev.Tb
