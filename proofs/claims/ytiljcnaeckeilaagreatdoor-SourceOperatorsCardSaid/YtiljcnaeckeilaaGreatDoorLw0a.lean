/-
Proved here: the law's program is prepared, for a binary operator.
Conditions: none beyond those that the statements name.
-/
import Derived.KernelRfl
import Derived.Test.YtiljcnaeckeilaaGreatDoorBas
set_option maxRecDepth 100000
namespace Go.Ev.Tb
open Go Go.Ev Go.Proofs
namespace LwA0
noncomputable abbrev h79 : Key := .xI (.xI (.xI (.xI (.xO (.xO .xH)))))
noncomputable abbrev h101 : Key := .xI (.xO (.xI (.xO (.xO (.xI .xH)))))
noncomputable abbrev h103 : Key := .xI (.xI (.xI (.xO (.xO (.xI .xH)))))
noncomputable abbrev h112 : Key := .xO (.xO (.xO (.xO (.xI (.xI .xH)))))
noncomputable abbrev h114 : Key := .xO (.xI (.xO (.xO (.xI (.xI .xH)))))
noncomputable abbrev h116 : Key := .xO (.xO (.xI (.xO (.xI (.xI .xH)))))
noncomputable abbrev h142 : Key := .xO (.xI (.xI (.xI (.xO (.xO (.xO .xH))))))
noncomputable abbrev h145 : Key := .xI (.xO (.xO (.xO (.xI (.xO (.xO .xH))))))
noncomputable abbrev h159 : Key := .xI (.xI (.xI (.xI (.xI (.xO (.xO .xH))))))
noncomputable abbrev h1080 : Key := .xO (.xO (.xO (.xI (.xI (.xI (.xO (.xO (.xO (.xO .xH)))))))))
noncomputable abbrev h1085 : Key := .xI (.xO (.xI (.xI (.xI (.xI (.xO (.xO (.xO (.xO .xH)))))))))
noncomputable abbrev h1090 : Key := .xO (.xI (.xO (.xO (.xO (.xO (.xI (.xO (.xO (.xO .xH)))))))))
noncomputable abbrev h1095 : Key := .xI (.xI (.xI (.xO (.xO (.xO (.xI (.xO (.xO (.xO .xH)))))))))
noncomputable abbrev h1100 : Key := .xO (.xO (.xI (.xI (.xO (.xO (.xI (.xO (.xO (.xO .xH)))))))))
noncomputable abbrev h1102 : Key := .xO (.xI (.xI (.xI (.xO (.xO (.xI (.xO (.xO (.xO .xH)))))))))
noncomputable abbrev h1103 : Key := .xI (.xI (.xI (.xI (.xO (.xO (.xI (.xO (.xO (.xO .xH)))))))))
noncomputable abbrev h1104 : Key := .xO (.xO (.xO (.xO (.xI (.xO (.xI (.xO (.xO (.xO .xH)))))))))
noncomputable abbrev h2318 : Key := .xO (.xI (.xI (.xI (.xO (.xO (.xO (.xO (.xI (.xO (.xO .xH))))))))))
noncomputable abbrev h2323 : Key := .xI (.xI (.xO (.xO (.xI (.xO (.xO (.xO (.xI (.xO (.xO .xH))))))))))
noncomputable abbrev h2328 : Key := .xO (.xO (.xO (.xI (.xI (.xO (.xO (.xO (.xI (.xO (.xO .xH))))))))))
noncomputable abbrev h2333 : Key := .xI (.xO (.xI (.xI (.xI (.xO (.xO (.xO (.xI (.xO (.xO .xH))))))))))
noncomputable abbrev h2335 : Key := .xI (.xI (.xI (.xI (.xI (.xO (.xO (.xO (.xI (.xO (.xO .xH))))))))))
noncomputable abbrev h2336 : Key := .xO (.xO (.xO (.xO (.xO (.xI (.xO (.xO (.xI (.xO (.xO .xH))))))))))
noncomputable abbrev h2403 : Key := .xI (.xI (.xO (.xO (.xO (.xI (.xI (.xO (.xI (.xO (.xO .xH))))))))))
noncomputable abbrev h2425 : Key := .xI (.xO (.xO (.xI (.xI (.xI (.xI (.xO (.xI (.xO (.xO .xH))))))))))
noncomputable abbrev h2427 : Key := .xI (.xI (.xO (.xI (.xI (.xI (.xI (.xO (.xI (.xO (.xO .xH))))))))))
noncomputable abbrev h2436 : Key := .xO (.xO (.xI (.xO (.xO (.xO (.xO (.xI (.xI (.xO (.xO .xH))))))))))
noncomputable abbrev h2438 : Key := .xO (.xI (.xI (.xO (.xO (.xO (.xO (.xI (.xI (.xO (.xO .xH))))))))))
noncomputable abbrev h2440 : Key := .xO (.xO (.xO (.xI (.xO (.xO (.xO (.xI (.xI (.xO (.xO .xH))))))))))
noncomputable abbrev h2466 : Key := .xO (.xI (.xO (.xO (.xO (.xI (.xO (.xI (.xI (.xO (.xO .xH))))))))))
noncomputable abbrev h2469 : Key := .xI (.xO (.xI (.xO (.xO (.xI (.xO (.xI (.xI (.xO (.xO .xH))))))))))
noncomputable abbrev h2483 : Key := .xI (.xI (.xO (.xO (.xI (.xI (.xO (.xI (.xI (.xO (.xO .xH))))))))))
noncomputable abbrev h3404 : Key := .xO (.xO (.xI (.xI (.xO (.xO (.xI (.xO (.xI (.xO (.xI .xH))))))))))
noncomputable abbrev h3409 : Key := .xI (.xO (.xO (.xO (.xI (.xO (.xI (.xO (.xI (.xO (.xI .xH))))))))))
noncomputable abbrev h3414 : Key := .xO (.xI (.xI (.xO (.xI (.xO (.xI (.xO (.xI (.xO (.xI .xH))))))))))
noncomputable abbrev h3419 : Key := .xI (.xI (.xO (.xI (.xI (.xO (.xI (.xO (.xI (.xO (.xI .xH))))))))))
noncomputable abbrev h3424 : Key := .xO (.xO (.xO (.xO (.xO (.xI (.xI (.xO (.xI (.xO (.xI .xH))))))))))
noncomputable abbrev h3426 : Key := .xO (.xI (.xO (.xO (.xO (.xI (.xI (.xO (.xI (.xO (.xI .xH))))))))))
noncomputable abbrev h3427 : Key := .xI (.xI (.xO (.xO (.xO (.xI (.xI (.xO (.xI (.xO (.xI .xH))))))))))
noncomputable abbrev h3428 : Key := .xO (.xO (.xI (.xO (.xO (.xI (.xI (.xO (.xI (.xO (.xI .xH))))))))))
noncomputable abbrev h4642 : Key := .xO (.xI (.xO (.xO (.xO (.xI (.xO (.xO (.xO (.xI (.xO (.xO .xH)))))))))))
noncomputable abbrev h4647 : Key := .xI (.xI (.xI (.xO (.xO (.xI (.xO (.xO (.xO (.xI (.xO (.xO .xH)))))))))))
noncomputable abbrev h4652 : Key := .xO (.xO (.xI (.xI (.xO (.xI (.xO (.xO (.xO (.xI (.xO (.xO .xH)))))))))))
noncomputable abbrev h4657 : Key := .xI (.xO (.xO (.xO (.xI (.xI (.xO (.xO (.xO (.xI (.xO (.xO .xH)))))))))))
noncomputable abbrev h4659 : Key := .xI (.xI (.xO (.xO (.xI (.xI (.xO (.xO (.xO (.xI (.xO (.xO .xH)))))))))))
noncomputable abbrev h4660 : Key := .xO (.xO (.xI (.xO (.xI (.xI (.xO (.xO (.xO (.xI (.xO (.xO .xH)))))))))))
noncomputable def e0 : HEnt := ⟨43, [.agg [.nils, .sli h142 0 1 (.op 3)], .agg [.sli h112 0 1 (.op 1), .sli h114 0 1 (.op 1), .sli h116 0 1 (.op 1)], zz], [(h79, .cells 9 [.str 1 97, .str 1 98, .str 1 99]), (h101, .cells 3 [mm, mm, mm, mm]), (h103, .cells 3 [mm, mm, mm, mm]), (h112, .cells 30 [.sli h79 0 3 (.op 1)]), (h114, .cells 22 [.sli h101 0 4 (.op 1)]), (h116, .cells 22 [.sli h103 0 4 (.op 1)]), (h142, .cells 38 [.str 4 1835100526, .nils, .sli h145 0 4 (.op 9)]), (h145, .cells 32 [.int .i64 (.ofNat 1), .str 1 97, ee, ee, ee, .nils, .sym 4, .sym 5, .sym 6, .int .i64 (.ofNat 1), .str 1 98, ee, ee, ee, .nils, .sym 7, .sym 8, .sym 9, .sym 3, .str 1 99, .str 1 97, .str 1 98, ee, .nils, zz, zz, ee, .int .i64 (.ofNat 29), .str 1 99, ee, ee, ee, .nils, zz, zz, ee])], h159, .sli h1102 0 5 (.op 1), [(h79, .cells 9 [.str 1 97, .str 1 98, .str 1 99]), (h101, .cells 3 [mm, mm, mm, mm]), (h103, .cells 3 [mm, mm, mm, mm]), (h112, .cells 30 [.sli h79 0 3 (.op 1)]), (h114, .cells 22 [.sli h101 0 4 (.op 1)]), (h116, .cells 22 [.sli h103 0 4 (.op 1)]), (h142, .cells 38 [.str 4 1835100526, .nils, .sli h145 0 4 (.op 9)]), (h145, .cells 32 [.int .i64 (.ofNat 1), .str 1 97, ee, ee, ee, .nils, .sym 4, .sym 5, .sym 6, .int .i64 (.ofNat 1), .str 1 98, ee, ee, ee, .nils, .sym 7, .sym 8, .sym 9, .sym 3, .str 1 99, .str 1 97, .str 1 98, ee, .nils, zz, zz, ee, .int .i64 (.ofNat 29), .str 1 99, ee, ee, ee, .nils, zz, zz, ee]), (h1080, .cells 4 [.bool false, .bool false, .bool false]), (h1085, .cells 4 [.bool true, .bool false, .bool false]), (h1090, .cells 4 [.bool true, .bool true, .bool false]), (h1095, .cells 4 [.bool false, .bool false, .bool true]), (h1100, .cells 4 [.bool false, .bool false, .bool false]), (h1102, .cells 170 [.sli h1080 0 3 (.op 1), .sli h1085 0 3 (.op 1), .sli h1090 0 3 (.op 1), .sli h1095 0 3 (.op 1), .sli h1100 0 3 (.op 1)])], h1103⟩
theorem t0 : e0.ends ((cfC 0 sumL).call e0.f e0.args e0.start) = some e0.v := by kernel_rfl
noncomputable def e1 : HEnt := ⟨43, [.agg [.nils, .sli h2466 0 1 (.op 3)], .agg [.sli h2436 0 1 (.op 1), .sli h2438 0 1 (.op 1), .sli h2440 0 1 (.op 1)], zz], [(h2403, .cells 9 [.str 1 97, .str 1 98, .str 1 99]), (h2425, .cells 3 [mm, mm, mm, mm]), (h2427, .cells 3 [mm, mm, mm, mm]), (h2436, .cells 30 [.sli h2403 0 3 (.op 1)]), (h2438, .cells 22 [.sli h2425 0 4 (.op 1)]), (h2440, .cells 22 [.sli h2427 0 4 (.op 1)]), (h2466, .cells 38 [.str 4 1835100526, .nils, .sli h2469 0 4 (.op 9)]), (h2469, .cells 32 [.int .i64 (.ofNat 1), .str 1 97, ee, ee, ee, .nils, .sym 4, .sym 5, .sym 6, .int .i64 (.ofNat 1), .str 1 98, ee, ee, ee, .nils, .sym 7, .sym 8, .sym 9, .sym 3, .str 1 99, .str 1 97, .str 1 98, ee, .nils, zz, zz, ee, .int .i64 (.ofNat 29), .str 1 99, ee, ee, ee, .nils, zz, zz, ee])], h2483, .sli h3426 0 5 (.op 1), [(h2403, .cells 9 [.str 1 97, .str 1 98, .str 1 99]), (h2425, .cells 3 [mm, mm, mm, mm]), (h2427, .cells 3 [mm, mm, mm, mm]), (h2436, .cells 30 [.sli h2403 0 3 (.op 1)]), (h2438, .cells 22 [.sli h2425 0 4 (.op 1)]), (h2440, .cells 22 [.sli h2427 0 4 (.op 1)]), (h2466, .cells 38 [.str 4 1835100526, .nils, .sli h2469 0 4 (.op 9)]), (h2469, .cells 32 [.int .i64 (.ofNat 1), .str 1 97, ee, ee, ee, .nils, .sym 4, .sym 5, .sym 6, .int .i64 (.ofNat 1), .str 1 98, ee, ee, ee, .nils, .sym 7, .sym 8, .sym 9, .sym 3, .str 1 99, .str 1 97, .str 1 98, ee, .nils, zz, zz, ee, .int .i64 (.ofNat 29), .str 1 99, ee, ee, ee, .nils, zz, zz, ee]), (h3404, .cells 4 [.bool false, .bool false, .bool false]), (h3409, .cells 4 [.bool true, .bool false, .bool false]), (h3414, .cells 4 [.bool true, .bool true, .bool false]), (h3419, .cells 4 [.bool false, .bool false, .bool true]), (h3424, .cells 4 [.bool false, .bool false, .bool false]), (h3426, .cells 170 [.sli h3404 0 3 (.op 1), .sli h3409 0 3 (.op 1), .sli h3414 0 3 (.op 1), .sli h3419 0 3 (.op 1), .sli h3424 0 3 (.op 1)])], h3427⟩
theorem t1 : e1.ends ((cfC 0 sumL).call e1.f e1.args e1.start) = some e1.v := by kernel_rfl
noncomputable def e2 : HEnt := ⟨44, [.agg [.nils, .sli h142 0 1 (.op 3)], .agg [.sli h112 0 1 (.op 1), .sli h114 0 1 (.op 1), .sli h116 0 1 (.op 1)], zz], [(h79, .cells 9 [.str 1 97, .str 1 98, .str 1 99]), (h101, .cells 3 [mm, mm, mm, mm]), (h103, .cells 3 [mm, mm, mm, mm]), (h112, .cells 30 [.sli h79 0 3 (.op 1)]), (h114, .cells 22 [.sli h101 0 4 (.op 1)]), (h116, .cells 22 [.sli h103 0 4 (.op 1)]), (h142, .cells 38 [.str 4 1835100526, .nils, .sli h145 0 4 (.op 9)]), (h145, .cells 32 [.int .i64 (.ofNat 1), .str 1 97, ee, ee, ee, .nils, .sym 4, .sym 5, .sym 6, .int .i64 (.ofNat 1), .str 1 98, ee, ee, ee, .nils, .sym 7, .sym 8, .sym 9, .sym 3, .str 1 99, .str 1 97, .str 1 98, ee, .nils, zz, zz, ee, .int .i64 (.ofNat 29), .str 1 99, ee, ee, ee, .nils, zz, zz, ee])], h1104, .sli h2335 0 4 (.op 1), [(h79, .cells 9 [.str 1 97, .str 1 98, .str 1 99]), (h101, .cells 3 [mm, mm, mm, mm]), (h103, .cells 3 [mm, mm, mm, mm]), (h112, .cells 30 [.sli h79 0 3 (.op 1)]), (h114, .cells 22 [.sli h101 0 4 (.op 1)]), (h116, .cells 22 [.sli h103 0 4 (.op 1)]), (h142, .cells 38 [.str 4 1835100526, .nils, .sli h145 0 4 (.op 9)]), (h145, .cells 32 [.int .i64 (.ofNat 1), .str 1 97, ee, ee, ee, .nils, .sym 4, .sym 5, .sym 6, .int .i64 (.ofNat 1), .str 1 98, ee, ee, ee, .nils, .sym 7, .sym 8, .sym 9, .sym 3, .str 1 99, .str 1 97, .str 1 98, ee, .nils, zz, zz, ee, .int .i64 (.ofNat 29), .str 1 99, ee, ee, ee, .nils, zz, zz, ee]), (h2318, .cells 4 [.bool false, .bool false, .bool false]), (h2323, .cells 4 [.bool true, .bool false, .bool false]), (h2328, .cells 4 [.bool false, .bool false, .bool false]), (h2333, .cells 4 [.bool false, .bool false, .bool false]), (h2335, .cells 170 [.sli h2318 0 3 (.op 1), .sli h2323 0 3 (.op 1), .sli h2328 0 3 (.op 1), .sli h2333 0 3 (.op 1)])], h2336⟩
theorem t2 : e2.ends ((cfC 0 sumL).call e2.f e2.args e2.start) = some e2.v := by kernel_rfl
noncomputable def e3 : HEnt := ⟨44, [.agg [.nils, .sli h2466 0 1 (.op 3)], .agg [.sli h2436 0 1 (.op 1), .sli h2438 0 1 (.op 1), .sli h2440 0 1 (.op 1)], zz], [(h2403, .cells 9 [.str 1 97, .str 1 98, .str 1 99]), (h2425, .cells 3 [mm, mm, mm, mm]), (h2427, .cells 3 [mm, mm, mm, mm]), (h2436, .cells 30 [.sli h2403 0 3 (.op 1)]), (h2438, .cells 22 [.sli h2425 0 4 (.op 1)]), (h2440, .cells 22 [.sli h2427 0 4 (.op 1)]), (h2466, .cells 38 [.str 4 1835100526, .nils, .sli h2469 0 4 (.op 9)]), (h2469, .cells 32 [.int .i64 (.ofNat 1), .str 1 97, ee, ee, ee, .nils, .sym 4, .sym 5, .sym 6, .int .i64 (.ofNat 1), .str 1 98, ee, ee, ee, .nils, .sym 7, .sym 8, .sym 9, .sym 3, .str 1 99, .str 1 97, .str 1 98, ee, .nils, zz, zz, ee, .int .i64 (.ofNat 29), .str 1 99, ee, ee, ee, .nils, zz, zz, ee])], h3428, .sli h4659 0 4 (.op 1), [(h2403, .cells 9 [.str 1 97, .str 1 98, .str 1 99]), (h2425, .cells 3 [mm, mm, mm, mm]), (h2427, .cells 3 [mm, mm, mm, mm]), (h2436, .cells 30 [.sli h2403 0 3 (.op 1)]), (h2438, .cells 22 [.sli h2425 0 4 (.op 1)]), (h2440, .cells 22 [.sli h2427 0 4 (.op 1)]), (h2466, .cells 38 [.str 4 1835100526, .nils, .sli h2469 0 4 (.op 9)]), (h2469, .cells 32 [.int .i64 (.ofNat 1), .str 1 97, ee, ee, ee, .nils, .sym 4, .sym 5, .sym 6, .int .i64 (.ofNat 1), .str 1 98, ee, ee, ee, .nils, .sym 7, .sym 8, .sym 9, .sym 3, .str 1 99, .str 1 97, .str 1 98, ee, .nils, zz, zz, ee, .int .i64 (.ofNat 29), .str 1 99, ee, ee, ee, .nils, zz, zz, ee]), (h4642, .cells 4 [.bool false, .bool false, .bool false]), (h4647, .cells 4 [.bool true, .bool false, .bool false]), (h4652, .cells 4 [.bool false, .bool false, .bool false]), (h4657, .cells 4 [.bool false, .bool false, .bool false]), (h4659, .cells 170 [.sli h4642 0 3 (.op 1), .sli h4647 0 3 (.op 1), .sli h4652 0 3 (.op 1), .sli h4657 0 3 (.op 1)])], h4660⟩
theorem t3 : e3.ends ((cfC 0 sumL).call e3.f e3.args e3.start) = some e3.v := by kernel_rfl
noncomputable def tb : List HEnt := [e0, e1, e2, e3]
noncomputable def sum : Nat → List AV → St → CR := sumH tb sumL
end LwA0
end Go.Ev.Tb
set_option maxRecDepth 100000
namespace Go.Ev.Tb
open Go Go.Ev Go.Proofs
namespace LwB0
noncomputable abbrev h8 : Key := .xO (.xO (.xO .xH))
noncomputable abbrev h10 : Key := .xO (.xI (.xO .xH))
noncomputable abbrev h12 : Key := .xO (.xO (.xI .xH))
noncomputable abbrev h13 : Key := .xI (.xO (.xI .xH))
noncomputable abbrev h16 : Key := .xO (.xO (.xO (.xO .xH)))
noncomputable abbrev h79 : Key := .xI (.xI (.xI (.xI (.xO (.xO .xH)))))
noncomputable abbrev h101 : Key := .xI (.xO (.xI (.xO (.xO (.xI .xH)))))
noncomputable abbrev h103 : Key := .xI (.xI (.xI (.xO (.xO (.xI .xH)))))
noncomputable abbrev h112 : Key := .xO (.xO (.xO (.xO (.xI (.xI .xH)))))
noncomputable abbrev h114 : Key := .xO (.xI (.xO (.xO (.xI (.xI .xH)))))
noncomputable abbrev h116 : Key := .xO (.xO (.xI (.xO (.xI (.xI .xH)))))
noncomputable abbrev h138 : Key := .xO (.xI (.xO (.xI (.xO (.xO (.xO .xH))))))
noncomputable abbrev h142 : Key := .xO (.xI (.xI (.xI (.xO (.xO (.xO .xH))))))
noncomputable abbrev h145 : Key := .xI (.xO (.xO (.xO (.xI (.xO (.xO .xH))))))
noncomputable abbrev h149 : Key := .xI (.xO (.xI (.xO (.xI (.xO (.xO .xH))))))
noncomputable abbrev h151 : Key := .xI (.xI (.xI (.xO (.xI (.xO (.xO .xH))))))
noncomputable abbrev h152 : Key := .xO (.xO (.xO (.xI (.xI (.xO (.xO .xH))))))
noncomputable abbrev h153 : Key := .xI (.xO (.xO (.xI (.xI (.xO (.xO .xH))))))
noncomputable abbrev h156 : Key := .xO (.xO (.xI (.xI (.xI (.xO (.xO .xH))))))
noncomputable abbrev h1080 : Key := .xO (.xO (.xO (.xI (.xI (.xI (.xO (.xO (.xO (.xO .xH)))))))))
noncomputable abbrev h1085 : Key := .xI (.xO (.xI (.xI (.xI (.xI (.xO (.xO (.xO (.xO .xH)))))))))
noncomputable abbrev h1090 : Key := .xO (.xI (.xO (.xO (.xO (.xO (.xI (.xO (.xO (.xO .xH)))))))))
noncomputable abbrev h1095 : Key := .xI (.xI (.xI (.xO (.xO (.xO (.xI (.xO (.xO (.xO .xH)))))))))
noncomputable abbrev h1100 : Key := .xO (.xO (.xI (.xI (.xO (.xO (.xI (.xO (.xO (.xO .xH)))))))))
noncomputable abbrev h1102 : Key := .xO (.xI (.xI (.xI (.xO (.xO (.xI (.xO (.xO (.xO .xH)))))))))
noncomputable abbrev h1103 : Key := .xI (.xI (.xI (.xI (.xO (.xO (.xI (.xO (.xO (.xO .xH)))))))))
noncomputable abbrev h2318 : Key := .xO (.xI (.xI (.xI (.xO (.xO (.xO (.xO (.xI (.xO (.xO .xH))))))))))
noncomputable abbrev h2323 : Key := .xI (.xI (.xO (.xO (.xI (.xO (.xO (.xO (.xI (.xO (.xO .xH))))))))))
noncomputable abbrev h2328 : Key := .xO (.xO (.xO (.xI (.xI (.xO (.xO (.xO (.xI (.xO (.xO .xH))))))))))
noncomputable abbrev h2333 : Key := .xI (.xO (.xI (.xI (.xI (.xO (.xO (.xO (.xI (.xO (.xO .xH))))))))))
noncomputable abbrev h2335 : Key := .xI (.xI (.xI (.xI (.xI (.xO (.xO (.xO (.xI (.xO (.xO .xH))))))))))
noncomputable abbrev h2336 : Key := .xO (.xO (.xO (.xO (.xO (.xI (.xO (.xO (.xI (.xO (.xO .xH))))))))))
noncomputable abbrev h2337 : Key := .xI (.xO (.xO (.xO (.xO (.xI (.xO (.xO (.xI (.xO (.xO .xH))))))))))
noncomputable abbrev h2340 : Key := .xO (.xO (.xI (.xO (.xO (.xI (.xO (.xO (.xI (.xO (.xO .xH))))))))))
noncomputable abbrev h2403 : Key := .xI (.xI (.xO (.xO (.xO (.xI (.xI (.xO (.xI (.xO (.xO .xH))))))))))
noncomputable abbrev h2425 : Key := .xI (.xO (.xO (.xI (.xI (.xI (.xI (.xO (.xI (.xO (.xO .xH))))))))))
noncomputable abbrev h2427 : Key := .xI (.xI (.xO (.xI (.xI (.xI (.xI (.xO (.xI (.xO (.xO .xH))))))))))
noncomputable abbrev h2436 : Key := .xO (.xO (.xI (.xO (.xO (.xO (.xO (.xI (.xI (.xO (.xO .xH))))))))))
noncomputable abbrev h2438 : Key := .xO (.xI (.xI (.xO (.xO (.xO (.xO (.xI (.xI (.xO (.xO .xH))))))))))
noncomputable abbrev h2440 : Key := .xO (.xO (.xO (.xI (.xO (.xO (.xO (.xI (.xI (.xO (.xO .xH))))))))))
noncomputable abbrev h2462 : Key := .xO (.xI (.xI (.xI (.xI (.xO (.xO (.xI (.xI (.xO (.xO .xH))))))))))
noncomputable abbrev h2466 : Key := .xO (.xI (.xO (.xO (.xO (.xI (.xO (.xI (.xI (.xO (.xO .xH))))))))))
noncomputable abbrev h2469 : Key := .xI (.xO (.xI (.xO (.xO (.xI (.xO (.xI (.xI (.xO (.xO .xH))))))))))
noncomputable abbrev h2473 : Key := .xI (.xO (.xO (.xI (.xO (.xI (.xO (.xI (.xI (.xO (.xO .xH))))))))))
noncomputable abbrev h2475 : Key := .xI (.xI (.xO (.xI (.xO (.xI (.xO (.xI (.xI (.xO (.xO .xH))))))))))
noncomputable abbrev h2476 : Key := .xO (.xO (.xI (.xI (.xO (.xI (.xO (.xI (.xI (.xO (.xO .xH))))))))))
noncomputable abbrev h2477 : Key := .xI (.xO (.xI (.xI (.xO (.xI (.xO (.xI (.xI (.xO (.xO .xH))))))))))
noncomputable abbrev h2480 : Key := .xO (.xO (.xO (.xO (.xI (.xI (.xO (.xI (.xI (.xO (.xO .xH))))))))))
noncomputable abbrev h3404 : Key := .xO (.xO (.xI (.xI (.xO (.xO (.xI (.xO (.xI (.xO (.xI .xH))))))))))
noncomputable abbrev h3409 : Key := .xI (.xO (.xO (.xO (.xI (.xO (.xI (.xO (.xI (.xO (.xI .xH))))))))))
noncomputable abbrev h3414 : Key := .xO (.xI (.xI (.xO (.xI (.xO (.xI (.xO (.xI (.xO (.xI .xH))))))))))
noncomputable abbrev h3419 : Key := .xI (.xI (.xO (.xI (.xI (.xO (.xI (.xO (.xI (.xO (.xI .xH))))))))))
noncomputable abbrev h3424 : Key := .xO (.xO (.xO (.xO (.xO (.xI (.xI (.xO (.xI (.xO (.xI .xH))))))))))
noncomputable abbrev h3426 : Key := .xO (.xI (.xO (.xO (.xO (.xI (.xI (.xO (.xI (.xO (.xI .xH))))))))))
noncomputable abbrev h3427 : Key := .xI (.xI (.xO (.xO (.xO (.xI (.xI (.xO (.xI (.xO (.xI .xH))))))))))
noncomputable abbrev h4642 : Key := .xO (.xI (.xO (.xO (.xO (.xI (.xO (.xO (.xO (.xI (.xO (.xO .xH)))))))))))
noncomputable abbrev h4647 : Key := .xI (.xI (.xI (.xO (.xO (.xI (.xO (.xO (.xO (.xI (.xO (.xO .xH)))))))))))
noncomputable abbrev h4652 : Key := .xO (.xO (.xI (.xI (.xO (.xI (.xO (.xO (.xO (.xI (.xO (.xO .xH)))))))))))
noncomputable abbrev h4657 : Key := .xI (.xO (.xO (.xO (.xI (.xI (.xO (.xO (.xO (.xI (.xO (.xO .xH)))))))))))
noncomputable abbrev h4659 : Key := .xI (.xI (.xO (.xO (.xI (.xI (.xO (.xO (.xO (.xI (.xO (.xO .xH)))))))))))
noncomputable abbrev h4660 : Key := .xO (.xO (.xI (.xO (.xI (.xI (.xO (.xO (.xO (.xI (.xO (.xO .xH)))))))))))
noncomputable abbrev h4661 : Key := .xI (.xO (.xI (.xO (.xI (.xI (.xO (.xO (.xO (.xI (.xO (.xO .xH)))))))))))
noncomputable def e0 : HEnt := ⟨20, [.agg [.nils, .sli h10 0 1 (.ex 1)], .agg [.nils, .nils, .nils, .sli h12 0 1 (.ex 1), .sli h13 0 1 (.ex 1), zz]], [(h8, .cells 32 [.int .i64 (.ofNat 1), .str 1 97, ee, ee, ee, .nils, .sym 4, .sym 5, .sym 6, .int .i64 (.ofNat 1), .str 1 98, ee, ee, ee, .nils, .sym 7, .sym 8, .sym 9, .sym 3, .str 1 99, .str 1 97, .str 1 98, ee, .nils, zz, zz, ee, .int .i64 (.ofNat 29), .str 1 99, ee, ee, ee, .nils, zz, zz, ee]), (h10, .cells 38 [.str 4 1835100526, .nils, .sli h8 0 4 (.ex 4)]), (h12, .cells 3 [.int .i64 (.ofNat 9)]), (h13, .cells 3 [.int .i64 (.ofNat 9)])], h16, .tup [.ptr h138 0, zz], [(h8, .cells 32 [.int .i64 (.ofNat 1), .str 1 97, ee, ee, ee, .nils, .sym 4, .sym 5, .sym 6, .int .i64 (.ofNat 1), .str 1 98, ee, ee, ee, .nils, .sym 7, .sym 8, .sym 9, .sym 3, .str 1 99, .str 1 97, .str 1 98, ee, .nils, zz, zz, ee, .int .i64 (.ofNat 29), .str 1 99, ee, ee, ee, .nils, zz, zz, ee]), (h10, .cells 38 [.str 4 1835100526, .nils, .sli h8 0 4 (.ex 4)]), (h12, .cells 3 [.int .i64 (.ofNat 9)]), (h13, .cells 3 [.int .i64 (.ofNat 9)]), (h79, .cells 9 [.str 1 97, .str 1 98, .str 1 99]), (h101, .cells 3 [mm, mm, mm, mm]), (h103, .cells 3 [mm, mm, mm, mm]), (h112, .cells 30 [.sli h79 0 3 (.op 1)]), (h114, .cells 22 [.sli h101 0 4 (.op 1)]), (h116, .cells 22 [.sli h103 0 4 (.op 1)]), (h138, .cells 79 [.nils, .sli h142 0 1 (.op 3), .sli h112 0 1 (.op 1), .sli h114 0 1 (.op 1), .sli h116 0 1 (.op 1), .nils, .nils, .nils, .sli h149 0 1 (.op 1), .sli h151 0 1 (.op 1), zz, .nils, .nils, .nils, zz, zz, zz, zz, .nils, .nils, zz, zz, zz, .ptr h153 0, .sli h156 0 1 (.op 1), .sli h1103 0 1 (.op 1), .sli h2336 0 1 (.op 1), .nils]), (h142, .cells 38 [.str 4 1835100526, .nils, .sli h145 0 4 (.op 9)]), (h145, .cells 32 [.int .i64 (.ofNat 1), .str 1 97, ee, ee, ee, .nils, .sym 4, .sym 5, .sym 6, .int .i64 (.ofNat 1), .str 1 98, ee, ee, ee, .nils, .sym 7, .sym 8, .sym 9, .sym 3, .str 1 99, .str 1 97, .str 1 98, ee, .nils, zz, zz, ee, .int .i64 (.ofNat 29), .str 1 99, ee, ee, ee, .nils, zz, zz, ee]), (h149, .cells 3 [.int .i64 (.ofNat 9)]), (h151, .cells 3 [.int .i64 (.ofNat 9)]), (h152, .map [] 0), (h153, .cells 158 [.map h152, zz]), (h156, .cells 9 [.str 4 1835100526]), (h1080, .cells 4 [.bool false, .bool false, .bool false]), (h1085, .cells 4 [.bool true, .bool false, .bool false]), (h1090, .cells 4 [.bool true, .bool true, .bool false]), (h1095, .cells 4 [.bool false, .bool false, .bool true]), (h1100, .cells 4 [.bool false, .bool false, .bool false]), (h1102, .cells 170 [.sli h1080 0 3 (.op 1), .sli h1085 0 3 (.op 1), .sli h1090 0 3 (.op 1), .sli h1095 0 3 (.op 1), .sli h1100 0 3 (.op 1)]), (h1103, .cells 103 [.sli h1102 0 5 (.op 1)]), (h2318, .cells 4 [.bool false, .bool false, .bool false]), (h2323, .cells 4 [.bool true, .bool false, .bool false]), (h2328, .cells 4 [.bool false, .bool false, .bool false]), (h2333, .cells 4 [.bool false, .bool false, .bool false]), (h2335, .cells 170 [.sli h2318 0 3 (.op 1), .sli h2323 0 3 (.op 1), .sli h2328 0 3 (.op 1), .sli h2333 0 3 (.op 1)]), (h2336, .cells 103 [.sli h2335 0 4 (.op 1)])], h2337⟩
theorem t0 : e0.ends ((cfC 0 LwA0.sum).call e0.f e0.args e0.start) = some e0.v := by kernel_rfl
noncomputable def e1 : HEnt := ⟨20, [.agg [.nils, .sli h10 0 1 (.ex 1)], .agg [.nils, .nils, .nils, .sli h12 0 1 (.ex 1), .sli h13 0 1 (.ex 1), zz]], [(h8, .cells 32 [.int .i64 (.ofNat 1), .str 1 97, ee, ee, ee, .nils, .sym 4, .sym 5, .sym 6, .int .i64 (.ofNat 1), .str 1 98, ee, ee, ee, .nils, .sym 7, .sym 8, .sym 9, .sym 3, .str 1 99, .str 1 97, .str 1 98, ee, .nils, zz, zz, ee, .int .i64 (.ofNat 29), .str 1 99, ee, ee, ee, .nils, zz, zz, ee]), (h10, .cells 38 [.str 4 1835100526, .nils, .sli h8 0 4 (.ex 4)]), (h12, .cells 3 [.int .i64 (.ofNat 9)]), (h13, .cells 3 [.int .i64 (.ofNat 9)])], h2340, .tup [.ptr h2462 0, zz], [(h8, .cells 32 [.int .i64 (.ofNat 1), .str 1 97, ee, ee, ee, .nils, .sym 4, .sym 5, .sym 6, .int .i64 (.ofNat 1), .str 1 98, ee, ee, ee, .nils, .sym 7, .sym 8, .sym 9, .sym 3, .str 1 99, .str 1 97, .str 1 98, ee, .nils, zz, zz, ee, .int .i64 (.ofNat 29), .str 1 99, ee, ee, ee, .nils, zz, zz, ee]), (h10, .cells 38 [.str 4 1835100526, .nils, .sli h8 0 4 (.ex 4)]), (h12, .cells 3 [.int .i64 (.ofNat 9)]), (h13, .cells 3 [.int .i64 (.ofNat 9)]), (h2403, .cells 9 [.str 1 97, .str 1 98, .str 1 99]), (h2425, .cells 3 [mm, mm, mm, mm]), (h2427, .cells 3 [mm, mm, mm, mm]), (h2436, .cells 30 [.sli h2403 0 3 (.op 1)]), (h2438, .cells 22 [.sli h2425 0 4 (.op 1)]), (h2440, .cells 22 [.sli h2427 0 4 (.op 1)]), (h2462, .cells 79 [.nils, .sli h2466 0 1 (.op 3), .sli h2436 0 1 (.op 1), .sli h2438 0 1 (.op 1), .sli h2440 0 1 (.op 1), .nils, .nils, .nils, .sli h2473 0 1 (.op 1), .sli h2475 0 1 (.op 1), zz, .nils, .nils, .nils, zz, zz, zz, zz, .nils, .nils, zz, zz, zz, .ptr h2477 0, .sli h2480 0 1 (.op 1), .sli h3427 0 1 (.op 1), .sli h4660 0 1 (.op 1), .nils]), (h2466, .cells 38 [.str 4 1835100526, .nils, .sli h2469 0 4 (.op 9)]), (h2469, .cells 32 [.int .i64 (.ofNat 1), .str 1 97, ee, ee, ee, .nils, .sym 4, .sym 5, .sym 6, .int .i64 (.ofNat 1), .str 1 98, ee, ee, ee, .nils, .sym 7, .sym 8, .sym 9, .sym 3, .str 1 99, .str 1 97, .str 1 98, ee, .nils, zz, zz, ee, .int .i64 (.ofNat 29), .str 1 99, ee, ee, ee, .nils, zz, zz, ee]), (h2473, .cells 3 [.int .i64 (.ofNat 9)]), (h2475, .cells 3 [.int .i64 (.ofNat 9)]), (h2476, .map [] 0), (h2477, .cells 158 [.map h2476, zz]), (h2480, .cells 9 [.str 4 1835100526]), (h3404, .cells 4 [.bool false, .bool false, .bool false]), (h3409, .cells 4 [.bool true, .bool false, .bool false]), (h3414, .cells 4 [.bool true, .bool true, .bool false]), (h3419, .cells 4 [.bool false, .bool false, .bool true]), (h3424, .cells 4 [.bool false, .bool false, .bool false]), (h3426, .cells 170 [.sli h3404 0 3 (.op 1), .sli h3409 0 3 (.op 1), .sli h3414 0 3 (.op 1), .sli h3419 0 3 (.op 1), .sli h3424 0 3 (.op 1)]), (h3427, .cells 103 [.sli h3426 0 5 (.op 1)]), (h4642, .cells 4 [.bool false, .bool false, .bool false]), (h4647, .cells 4 [.bool true, .bool false, .bool false]), (h4652, .cells 4 [.bool false, .bool false, .bool false]), (h4657, .cells 4 [.bool false, .bool false, .bool false]), (h4659, .cells 170 [.sli h4642 0 3 (.op 1), .sli h4647 0 3 (.op 1), .sli h4652 0 3 (.op 1), .sli h4657 0 3 (.op 1)]), (h4660, .cells 103 [.sli h4659 0 4 (.op 1)])], h4661⟩
theorem t1 : e1.ends ((cfC 0 LwA0.sum).call e1.f e1.args e1.start) = some e1.v := by kernel_rfl
noncomputable def tb : List HEnt := [e0, e1]
noncomputable def sum : Nat → List AV → St → CR := sumH tb LwA0.sum
end LwB0
end Go.Ev.Tb
