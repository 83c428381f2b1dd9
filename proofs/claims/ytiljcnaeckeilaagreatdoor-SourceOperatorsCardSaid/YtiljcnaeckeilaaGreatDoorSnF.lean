/-
Proved here: sanity: its third program runs.
Conditions: none beyond those that the statements name.
-/
import Derived.KernelRfl
import Derived.Test.YtiljcnaeckeilaaGreatDoorSnE
set_option maxRecDepth 100000
namespace Go.Ev.Tb
open Go Go.Ev Go.Proofs
namespace ShB
noncomputable abbrev h5 : Key := .xI (.xO .xH)
noncomputable abbrev h7 : Key := .xI (.xI .xH)
noncomputable abbrev h31 : Key := .xI (.xI (.xI (.xI .xH)))
noncomputable abbrev h34 : Key := .xO (.xI (.xO (.xO (.xO .xH))))
noncomputable abbrev h35 : Key := .xI (.xI (.xO (.xO (.xO .xH))))
noncomputable abbrev h38 : Key := .xO (.xI (.xI (.xO (.xO .xH))))
noncomputable abbrev h109 : Key := .xI (.xO (.xI (.xI (.xO (.xI .xH)))))
noncomputable abbrev h221 : Key := .xI (.xO (.xI (.xI (.xI (.xO (.xI .xH))))))
noncomputable abbrev h223 : Key := .xI (.xI (.xI (.xI (.xI (.xO (.xI .xH))))))
noncomputable abbrev h232 : Key := .xO (.xO (.xO (.xI (.xO (.xI (.xI .xH))))))
noncomputable abbrev h234 : Key := .xO (.xI (.xO (.xI (.xO (.xI (.xI .xH))))))
noncomputable abbrev h236 : Key := .xO (.xO (.xI (.xI (.xO (.xI (.xI .xH))))))
noncomputable abbrev h258 : Key := .xO (.xI (.xO (.xO (.xO (.xO (.xO (.xO .xH)))))))
noncomputable abbrev h262 : Key := .xO (.xI (.xI (.xO (.xO (.xO (.xO (.xO .xH)))))))
noncomputable abbrev h265 : Key := .xI (.xO (.xO (.xI (.xO (.xO (.xO (.xO .xH)))))))
noncomputable abbrev h266 : Key := .xO (.xI (.xO (.xI (.xO (.xO (.xO (.xO .xH)))))))
noncomputable abbrev h270 : Key := .xO (.xI (.xI (.xI (.xO (.xO (.xO (.xO .xH)))))))
noncomputable abbrev h272 : Key := .xO (.xO (.xO (.xO (.xI (.xO (.xO (.xO .xH)))))))
noncomputable abbrev h273 : Key := .xI (.xO (.xO (.xO (.xI (.xO (.xO (.xO .xH)))))))
noncomputable abbrev h274 : Key := .xO (.xI (.xO (.xO (.xI (.xO (.xO (.xO .xH)))))))
noncomputable abbrev h277 : Key := .xI (.xO (.xI (.xO (.xI (.xO (.xO (.xO .xH)))))))
noncomputable abbrev h1663 : Key := .xI (.xI (.xI (.xI (.xI (.xI (.xI (.xO (.xO (.xI .xH)))))))))
noncomputable abbrev h1668 : Key := .xO (.xO (.xI (.xO (.xO (.xO (.xO (.xI (.xO (.xI .xH)))))))))
noncomputable abbrev h1673 : Key := .xI (.xO (.xO (.xI (.xO (.xO (.xO (.xI (.xO (.xI .xH)))))))))
noncomputable abbrev h1678 : Key := .xO (.xI (.xI (.xI (.xO (.xO (.xO (.xI (.xO (.xI .xH)))))))))
noncomputable abbrev h1683 : Key := .xI (.xI (.xO (.xO (.xI (.xO (.xO (.xI (.xO (.xI .xH)))))))))
noncomputable abbrev h1688 : Key := .xO (.xO (.xO (.xI (.xI (.xO (.xO (.xI (.xO (.xI .xH)))))))))
noncomputable abbrev h1693 : Key := .xI (.xO (.xI (.xI (.xI (.xO (.xO (.xI (.xO (.xI .xH)))))))))
noncomputable abbrev h1695 : Key := .xI (.xI (.xI (.xI (.xI (.xO (.xO (.xI (.xO (.xI .xH)))))))))
noncomputable abbrev h1696 : Key := .xO (.xO (.xO (.xO (.xO (.xI (.xO (.xI (.xO (.xI .xH)))))))))
noncomputable abbrev h3507 : Key := .xI (.xI (.xO (.xO (.xI (.xI (.xO (.xI (.xI (.xO (.xI .xH))))))))))
noncomputable abbrev h3512 : Key := .xO (.xO (.xO (.xI (.xI (.xI (.xO (.xI (.xI (.xO (.xI .xH))))))))))
noncomputable abbrev h3517 : Key := .xI (.xO (.xI (.xI (.xI (.xI (.xO (.xI (.xI (.xO (.xI .xH))))))))))
noncomputable abbrev h3522 : Key := .xO (.xI (.xO (.xO (.xO (.xO (.xI (.xI (.xI (.xO (.xI .xH))))))))))
noncomputable abbrev h3527 : Key := .xI (.xI (.xI (.xO (.xO (.xO (.xI (.xI (.xI (.xO (.xI .xH))))))))))
noncomputable abbrev h3532 : Key := .xO (.xO (.xI (.xI (.xO (.xO (.xI (.xI (.xI (.xO (.xI .xH))))))))))
noncomputable abbrev h3534 : Key := .xO (.xI (.xI (.xI (.xO (.xO (.xI (.xI (.xI (.xO (.xI .xH))))))))))
noncomputable abbrev h3535 : Key := .xI (.xI (.xI (.xI (.xO (.xO (.xI (.xI (.xI (.xO (.xI .xH))))))))))
noncomputable abbrev h3536 : Key := .xO (.xO (.xO (.xO (.xI (.xO (.xI (.xI (.xI (.xO (.xI .xH))))))))))
noncomputable abbrev h3539 : Key := .xI (.xI (.xO (.xO (.xI (.xO (.xI (.xI (.xI (.xO (.xI .xH))))))))))
noncomputable abbrev h3610 : Key := .xO (.xI (.xO (.xI (.xI (.xO (.xO (.xO (.xO (.xI (.xI .xH))))))))))
noncomputable abbrev h3722 : Key := .xO (.xI (.xO (.xI (.xO (.xO (.xO (.xI (.xO (.xI (.xI .xH))))))))))
noncomputable abbrev h3724 : Key := .xO (.xO (.xI (.xI (.xO (.xO (.xO (.xI (.xO (.xI (.xI .xH))))))))))
noncomputable abbrev h3733 : Key := .xI (.xO (.xI (.xO (.xI (.xO (.xO (.xI (.xO (.xI (.xI .xH))))))))))
noncomputable abbrev h3735 : Key := .xI (.xI (.xI (.xO (.xI (.xO (.xO (.xI (.xO (.xI (.xI .xH))))))))))
noncomputable abbrev h3737 : Key := .xI (.xO (.xO (.xI (.xI (.xO (.xO (.xI (.xO (.xI (.xI .xH))))))))))
noncomputable abbrev h3759 : Key := .xI (.xI (.xI (.xI (.xO (.xI (.xO (.xI (.xO (.xI (.xI .xH))))))))))
noncomputable abbrev h3763 : Key := .xI (.xI (.xO (.xO (.xI (.xI (.xO (.xI (.xO (.xI (.xI .xH))))))))))
noncomputable abbrev h3766 : Key := .xO (.xI (.xI (.xO (.xI (.xI (.xO (.xI (.xO (.xI (.xI .xH))))))))))
noncomputable abbrev h3767 : Key := .xI (.xI (.xI (.xO (.xI (.xI (.xO (.xI (.xO (.xI (.xI .xH))))))))))
noncomputable abbrev h3771 : Key := .xI (.xI (.xO (.xI (.xI (.xI (.xO (.xI (.xO (.xI (.xI .xH))))))))))
noncomputable abbrev h3773 : Key := .xI (.xO (.xI (.xI (.xI (.xI (.xO (.xI (.xO (.xI (.xI .xH))))))))))
noncomputable abbrev h3774 : Key := .xO (.xI (.xI (.xI (.xI (.xI (.xO (.xI (.xO (.xI (.xI .xH))))))))))
noncomputable abbrev h3775 : Key := .xI (.xI (.xI (.xI (.xI (.xI (.xO (.xI (.xO (.xI (.xI .xH))))))))))
noncomputable abbrev h3778 : Key := .xO (.xI (.xO (.xO (.xO (.xO (.xI (.xI (.xO (.xI (.xI .xH))))))))))
noncomputable abbrev h5164 : Key := .xO (.xO (.xI (.xI (.xO (.xI (.xO (.xO (.xO (.xO (.xI (.xO .xH)))))))))))
noncomputable abbrev h5169 : Key := .xI (.xO (.xO (.xO (.xI (.xI (.xO (.xO (.xO (.xO (.xI (.xO .xH)))))))))))
noncomputable abbrev h5174 : Key := .xO (.xI (.xI (.xO (.xI (.xI (.xO (.xO (.xO (.xO (.xI (.xO .xH)))))))))))
noncomputable abbrev h5179 : Key := .xI (.xI (.xO (.xI (.xI (.xI (.xO (.xO (.xO (.xO (.xI (.xO .xH)))))))))))
noncomputable abbrev h5184 : Key := .xO (.xO (.xO (.xO (.xO (.xO (.xI (.xO (.xO (.xO (.xI (.xO .xH)))))))))))
noncomputable abbrev h5189 : Key := .xI (.xO (.xI (.xO (.xO (.xO (.xI (.xO (.xO (.xO (.xI (.xO .xH)))))))))))
noncomputable abbrev h5194 : Key := .xO (.xI (.xO (.xI (.xO (.xO (.xI (.xO (.xO (.xO (.xI (.xO .xH)))))))))))
noncomputable abbrev h5196 : Key := .xO (.xO (.xI (.xI (.xO (.xO (.xI (.xO (.xO (.xO (.xI (.xO .xH)))))))))))
noncomputable abbrev h5197 : Key := .xI (.xO (.xI (.xI (.xO (.xO (.xI (.xO (.xO (.xO (.xI (.xO .xH)))))))))))
noncomputable abbrev h7008 : Key := .xO (.xO (.xO (.xO (.xO (.xI (.xI (.xO (.xI (.xI (.xO (.xI .xH)))))))))))
noncomputable abbrev h7013 : Key := .xI (.xO (.xI (.xO (.xO (.xI (.xI (.xO (.xI (.xI (.xO (.xI .xH)))))))))))
noncomputable abbrev h7018 : Key := .xO (.xI (.xO (.xI (.xO (.xI (.xI (.xO (.xI (.xI (.xO (.xI .xH)))))))))))
noncomputable abbrev h7023 : Key := .xI (.xI (.xI (.xI (.xO (.xI (.xI (.xO (.xI (.xI (.xO (.xI .xH)))))))))))
noncomputable abbrev h7028 : Key := .xO (.xO (.xI (.xO (.xI (.xI (.xI (.xO (.xI (.xI (.xO (.xI .xH)))))))))))
noncomputable abbrev h7033 : Key := .xI (.xO (.xO (.xI (.xI (.xI (.xI (.xO (.xI (.xI (.xO (.xI .xH)))))))))))
noncomputable abbrev h7035 : Key := .xI (.xI (.xO (.xI (.xI (.xI (.xI (.xO (.xI (.xI (.xO (.xI .xH)))))))))))
noncomputable abbrev h7036 : Key := .xO (.xO (.xI (.xI (.xI (.xI (.xI (.xO (.xI (.xI (.xO (.xI .xH)))))))))))
noncomputable abbrev h7037 : Key := .xI (.xO (.xI (.xI (.xI (.xI (.xI (.xO (.xI (.xI (.xO (.xI .xH)))))))))))
noncomputable abbrev h7040 : Key := .xO (.xO (.xO (.xO (.xO (.xO (.xO (.xI (.xI (.xI (.xO (.xI .xH)))))))))))
noncomputable abbrev h7045 : Key := .xI (.xO (.xI (.xO (.xO (.xO (.xO (.xI (.xI (.xI (.xO (.xI .xH)))))))))))
noncomputable abbrev h7048 : Key := .xO (.xO (.xO (.xI (.xO (.xO (.xO (.xI (.xI (.xI (.xO (.xI .xH)))))))))))
noncomputable abbrev h7049 : Key := .xI (.xO (.xO (.xI (.xO (.xO (.xO (.xI (.xI (.xI (.xO (.xI .xH)))))))))))
noncomputable abbrev h7053 : Key := .xI (.xO (.xI (.xI (.xO (.xO (.xO (.xI (.xI (.xI (.xO (.xI .xH)))))))))))
noncomputable abbrev h7419 : Key := .xI (.xI (.xO (.xI (.xI (.xI (.xI (.xI (.xO (.xO (.xI (.xI .xH)))))))))))
noncomputable abbrev h7456 : Key := .xO (.xO (.xO (.xO (.xO (.xI (.xO (.xO (.xI (.xO (.xI (.xI .xH)))))))))))
noncomputable abbrev h7461 : Key := .xI (.xO (.xI (.xO (.xO (.xI (.xO (.xO (.xI (.xO (.xI (.xI .xH)))))))))))
noncomputable abbrev h7468 : Key := .xO (.xO (.xI (.xI (.xO (.xI (.xO (.xO (.xI (.xO (.xI (.xI .xH)))))))))))
noncomputable def e0 : HEnt := ⟨20, [.agg [.nils, .sli h7 0 1 (.op 3)], .agg [.nils, .nils, .nils, .sli h34 0 1 (.ex 1), .sli h35 0 1 (.ex 1), zz]], [(h5, .cells 9 [.str 4 1835100526]), (h7, .cells 38 [.str 4 1835100526, .sli h5 0 0 (.ex 0), .sli h31 0 6 (.op 9)]), (h31, .cells 32 [.int .i64 (.ofNat 39), ee, ee, ee, ee, .nils, zz, zz, ee, .int .i64 (.ofNat 1), .str 1 120, ee, ee, ee, .nils, .int .i64 (.ofNat 3), .int .i64 (.ofNat 1), ee, .int .i64 (.ofNat 35), .str 1 120, ee, ee, ee, .nils, zz, zz, ee, .int .i64 (.ofNat 41), ee, ee, ee, ee, .nils, zz, zz, ee, .int .i64 (.ofNat 29), .str 1 120, ee, ee, ee, .nils, zz, zz, ee, .int .i64 (.ofNat 42), ee, ee, ee, ee, .nils, zz, zz, ee]), (h34, .cells 3 [.int .i64 (.ofNat 9)]), (h35, .cells 3 [.int .i64 (.ofNat 500)])], h3539, .tup [.ptr h3759 0, zz], [(h5, .cells 9 [.str 4 1835100526]), (h7, .cells 38 [.str 4 1835100526, .sli h5 0 0 (.ex 0), .sli h31 0 6 (.op 9)]), (h31, .cells 32 [.int .i64 (.ofNat 39), ee, ee, ee, ee, .nils, zz, zz, ee, .int .i64 (.ofNat 1), .str 1 120, ee, ee, ee, .nils, .int .i64 (.ofNat 3), .int .i64 (.ofNat 1), ee, .int .i64 (.ofNat 35), .str 1 120, ee, ee, ee, .nils, zz, zz, ee, .int .i64 (.ofNat 41), ee, ee, ee, ee, .nils, zz, zz, ee, .int .i64 (.ofNat 29), .str 1 120, ee, ee, ee, .nils, zz, zz, ee, .int .i64 (.ofNat 42), ee, ee, ee, ee, .nils, zz, zz, ee]), (h34, .cells 3 [.int .i64 (.ofNat 9)]), (h35, .cells 3 [.int .i64 (.ofNat 500)]), (h3610, .cells 9 [.str 1 120]), (h3722, .cells 3 [.int .i64 (.ofNat 3), mm, mm, .int .i64 (.ofNat 5), mm, zz]), (h3724, .cells 3 [mm, zz, zz, mm, .int .i64 (.ofNat 3), mm]), (h3733, .cells 30 [.sli h3610 0 1 (.op 1)]), (h3735, .cells 22 [.sli h3722 0 6 (.op 1)]), (h3737, .cells 22 [.sli h3724 0 6 (.op 1)]), (h3759, .cells 79 [.nils, .sli h3763 0 1 (.op 3), .sli h3733 0 1 (.op 1), .sli h3735 0 1 (.op 1), .sli h3737 0 1 (.op 1), .nils, .nils, .nils, .sli h3771 0 1 (.op 1), .sli h3773 0 1 (.op 1), zz, .nils, .nils, .nils, zz, zz, zz, zz, .nils, .nils, zz, zz, zz, .ptr h3775 0, .sli h3778 0 1 (.op 1), .sli h5197 0 1 (.op 1), .sli h7036 0 1 (.op 1), .nils]), (h3763, .cells 38 [.str 4 1835100526, .sli h3767 0 0 (.ex 0), .sli h3766 0 6 (.op 9)]), (h3766, .cells 32 [.int .i64 (.ofNat 39), ee, ee, ee, ee, .nils, zz, zz, ee, .int .i64 (.ofNat 1), .str 1 120, ee, ee, ee, .nils, .int .i64 (.ofNat 3), .int .i64 (.ofNat 1), ee, .int .i64 (.ofNat 35), .str 1 120, ee, ee, ee, .nils, zz, zz, ee, .int .i64 (.ofNat 41), ee, ee, ee, ee, .nils, zz, zz, ee, .int .i64 (.ofNat 29), .str 1 120, ee, ee, ee, .nils, zz, zz, ee, .int .i64 (.ofNat 42), ee, ee, ee, ee, .nils, zz, zz, ee]), (h3767, .cells 9 []), (h3771, .cells 3 [.int .i64 (.ofNat 9)]), (h3773, .cells 3 [.int .i64 (.ofNat 500)]), (h3774, .map [] 0), (h3775, .cells 158 [.map h3774, zz]), (h3778, .cells 9 [.str 4 1835100526]), (h5164, .cells 4 [.bool false]), (h5169, .cells 4 [.bool false]), (h5174, .cells 4 [.bool true]), (h5179, .cells 4 [.bool true]), (h5184, .cells 4 [.bool true]), (h5189, .cells 4 [.bool false]), (h5194, .cells 4 [.bool false]), (h5196, .cells 170 [.sli h5164 0 1 (.op 1), .sli h5169 0 1 (.op 1), .sli h5174 0 1 (.op 1), .sli h5179 0 1 (.op 1), .sli h5184 0 1 (.op 1), .sli h5189 0 1 (.op 1), .sli h5194 0 1 (.op 1)]), (h5197, .cells 103 [.sli h5196 0 7 (.op 1)]), (h7008, .cells 4 [.bool false]), (h7013, .cells 4 [.bool false]), (h7018, .cells 4 [.bool true]), (h7023, .cells 4 [.bool true]), (h7028, .cells 4 [.bool false]), (h7033, .cells 4 [.bool false]), (h7035, .cells 170 [.sli h7008 0 1 (.op 1), .sli h7013 0 1 (.op 1), .sli h7018 0 1 (.op 1), .sli h7023 0 1 (.op 1), .sli h7028 0 1 (.op 1), .sli h7033 0 1 (.op 1)]), (h7036, .cells 103 [.sli h7035 0 6 (.op 1)])], h7037⟩
theorem t0 : e0.ends ((cfOf ShA.sum).call e0.f e0.args e0.start) = some e0.v := by kernel_rfl
noncomputable def e1 : HEnt := ⟨20, [.agg [.nils, .sli h7 0 1 (.op 3)], .agg [.nils, .nils, .nils, .sli h34 0 1 (.ex 1), .sli h35 0 1 (.ex 1), zz]], [(h5, .cells 9 [.str 4 1835100526]), (h7, .cells 38 [.str 4 1835100526, .sli h5 0 0 (.ex 0), .sli h31 0 6 (.op 9)]), (h31, .cells 32 [.int .i64 (.ofNat 39), ee, ee, ee, ee, .nils, zz, zz, ee, .int .i64 (.ofNat 1), .str 1 120, ee, ee, ee, .nils, .int .i64 (.ofNat 3), .int .i64 (.ofNat 1), ee, .int .i64 (.ofNat 35), .str 1 120, ee, ee, ee, .nils, zz, zz, ee, .int .i64 (.ofNat 41), ee, ee, ee, ee, .nils, zz, zz, ee, .int .i64 (.ofNat 29), .str 1 120, ee, ee, ee, .nils, zz, zz, ee, .int .i64 (.ofNat 42), ee, ee, ee, ee, .nils, zz, zz, ee]), (h34, .cells 3 [.int .i64 (.ofNat 9)]), (h35, .cells 3 [.int .i64 (.ofNat 500)])], h38, .tup [.ptr h258 0, zz], [(h5, .cells 9 [.str 4 1835100526]), (h7, .cells 38 [.str 4 1835100526, .sli h5 0 0 (.ex 0), .sli h31 0 6 (.op 9)]), (h31, .cells 32 [.int .i64 (.ofNat 39), ee, ee, ee, ee, .nils, zz, zz, ee, .int .i64 (.ofNat 1), .str 1 120, ee, ee, ee, .nils, .int .i64 (.ofNat 3), .int .i64 (.ofNat 1), ee, .int .i64 (.ofNat 35), .str 1 120, ee, ee, ee, .nils, zz, zz, ee, .int .i64 (.ofNat 41), ee, ee, ee, ee, .nils, zz, zz, ee, .int .i64 (.ofNat 29), .str 1 120, ee, ee, ee, .nils, zz, zz, ee, .int .i64 (.ofNat 42), ee, ee, ee, ee, .nils, zz, zz, ee]), (h34, .cells 3 [.int .i64 (.ofNat 9)]), (h35, .cells 3 [.int .i64 (.ofNat 500)]), (h109, .cells 9 [.str 1 120]), (h221, .cells 3 [.int .i64 (.ofNat 3), mm, mm, .int .i64 (.ofNat 5), mm, zz]), (h223, .cells 3 [mm, zz, zz, mm, .int .i64 (.ofNat 3), mm]), (h232, .cells 30 [.sli h109 0 1 (.op 1)]), (h234, .cells 22 [.sli h221 0 6 (.op 1)]), (h236, .cells 22 [.sli h223 0 6 (.op 1)]), (h258, .cells 79 [.nils, .sli h262 0 1 (.op 3), .sli h232 0 1 (.op 1), .sli h234 0 1 (.op 1), .sli h236 0 1 (.op 1), .nils, .nils, .nils, .sli h270 0 1 (.op 1), .sli h272 0 1 (.op 1), zz, .nils, .nils, .nils, zz, zz, zz, zz, .nils, .nils, zz, zz, zz, .ptr h274 0, .sli h277 0 1 (.op 1), .sli h1696 0 1 (.op 1), .sli h3535 0 1 (.op 1), .nils]), (h262, .cells 38 [.str 4 1835100526, .sli h266 0 0 (.ex 0), .sli h265 0 6 (.op 9)]), (h265, .cells 32 [.int .i64 (.ofNat 39), ee, ee, ee, ee, .nils, zz, zz, ee, .int .i64 (.ofNat 1), .str 1 120, ee, ee, ee, .nils, .int .i64 (.ofNat 3), .int .i64 (.ofNat 1), ee, .int .i64 (.ofNat 35), .str 1 120, ee, ee, ee, .nils, zz, zz, ee, .int .i64 (.ofNat 41), ee, ee, ee, ee, .nils, zz, zz, ee, .int .i64 (.ofNat 29), .str 1 120, ee, ee, ee, .nils, zz, zz, ee, .int .i64 (.ofNat 42), ee, ee, ee, ee, .nils, zz, zz, ee]), (h266, .cells 9 []), (h270, .cells 3 [.int .i64 (.ofNat 9)]), (h272, .cells 3 [.int .i64 (.ofNat 500)]), (h273, .map [] 0), (h274, .cells 158 [.map h273, zz]), (h277, .cells 9 [.str 4 1835100526]), (h1663, .cells 4 [.bool false]), (h1668, .cells 4 [.bool false]), (h1673, .cells 4 [.bool true]), (h1678, .cells 4 [.bool true]), (h1683, .cells 4 [.bool true]), (h1688, .cells 4 [.bool false]), (h1693, .cells 4 [.bool false]), (h1695, .cells 170 [.sli h1663 0 1 (.op 1), .sli h1668 0 1 (.op 1), .sli h1673 0 1 (.op 1), .sli h1678 0 1 (.op 1), .sli h1683 0 1 (.op 1), .sli h1688 0 1 (.op 1), .sli h1693 0 1 (.op 1)]), (h1696, .cells 103 [.sli h1695 0 7 (.op 1)]), (h3507, .cells 4 [.bool false]), (h3512, .cells 4 [.bool false]), (h3517, .cells 4 [.bool true]), (h3522, .cells 4 [.bool true]), (h3527, .cells 4 [.bool false]), (h3532, .cells 4 [.bool false]), (h3534, .cells 170 [.sli h3507 0 1 (.op 1), .sli h3512 0 1 (.op 1), .sli h3517 0 1 (.op 1), .sli h3522 0 1 (.op 1), .sli h3527 0 1 (.op 1), .sli h3532 0 1 (.op 1)]), (h3535, .cells 103 [.sli h3534 0 6 (.op 1)])], h3536⟩
theorem t1 : e1.ends ((cfOf ShA.sum).call e1.f e1.args e1.start) = some e1.v := by kernel_rfl
noncomputable def e2 : HEnt := ⟨9, [.ptr h258 0, .int .i64 (.ofNat 100)], [(h109, .cells 9 [.str 1 120]), (h221, .cells 3 [.int .i64 (.ofNat 3), mm, mm, .int .i64 (.ofNat 5), mm, zz]), (h223, .cells 3 [mm, zz, zz, mm, .int .i64 (.ofNat 3), mm]), (h232, .cells 30 [.sli h109 0 1 (.op 1)]), (h234, .cells 22 [.sli h221 0 6 (.op 1)]), (h236, .cells 22 [.sli h223 0 6 (.op 1)]), (h258, .cells 79 [.nils, .sli h262 0 1 (.op 3), .sli h232 0 1 (.op 1), .sli h234 0 1 (.op 1), .sli h236 0 1 (.op 1), .nils, .nils, .nils, .sli h270 0 1 (.op 1), .sli h272 0 1 (.op 1), zz, .sli h7049 0 1 (.ex 1), .nils, .nils, zz, .int .i64 (.ofNat 1), zz, zz, .sli h7040 0 1 (.op 1), .sli h7037 0 1 (.ex 1), zz, zz, zz, .ptr h274 0, .sli h277 0 1 (.op 1), .sli h1696 0 1 (.op 1), .sli h3535 0 1 (.op 1), .nils]), (h262, .cells 38 [.str 4 1835100526, .sli h266 0 0 (.ex 0), .sli h265 0 6 (.op 9)]), (h265, .cells 32 [.int .i64 (.ofNat 39), ee, ee, ee, ee, .nils, zz, zz, ee, .int .i64 (.ofNat 1), .str 1 120, ee, ee, ee, .nils, .int .i64 (.ofNat 3), .int .i64 (.ofNat 1), ee, .int .i64 (.ofNat 35), .str 1 120, ee, ee, ee, .nils, zz, zz, ee, .int .i64 (.ofNat 41), ee, ee, ee, ee, .nils, zz, zz, ee, .int .i64 (.ofNat 29), .str 1 120, ee, ee, ee, .nils, zz, zz, ee, .int .i64 (.ofNat 42), ee, ee, ee, ee, .nils, zz, zz, ee]), (h266, .cells 9 []), (h270, .cells 3 [.int .i64 (.ofNat 9)]), (h272, .cells 3 [.int .i64 (.ofNat 500)]), (h273, .map [] 0), (h274, .cells 158 [.map h273, zz]), (h277, .cells 9 [.str 4 1835100526]), (h1663, .cells 4 [.bool false]), (h1668, .cells 4 [.bool false]), (h1673, .cells 4 [.bool true]), (h1678, .cells 4 [.bool true]), (h1683, .cells 4 [.bool true]), (h1688, .cells 4 [.bool false]), (h1693, .cells 4 [.bool false]), (h1695, .cells 170 [.sli h1663 0 1 (.op 1), .sli h1668 0 1 (.op 1), .sli h1673 0 1 (.op 1), .sli h1678 0 1 (.op 1), .sli h1683 0 1 (.op 1), .sli h1688 0 1 (.op 1), .sli h1693 0 1 (.op 1)]), (h1696, .cells 103 [.sli h1695 0 7 (.op 1)]), (h3507, .cells 4 [.bool false]), (h3512, .cells 4 [.bool false]), (h3517, .cells 4 [.bool true]), (h3522, .cells 4 [.bool true]), (h3527, .cells 4 [.bool false]), (h3532, .cells 4 [.bool false]), (h3534, .cells 170 [.sli h3507 0 1 (.op 1), .sli h3512 0 1 (.op 1), .sli h3517 0 1 (.op 1), .sli h3522 0 1 (.op 1), .sli h3527 0 1 (.op 1), .sli h3532 0 1 (.op 1)]), (h3535, .cells 103 [.sli h3534 0 6 (.op 1)]), (h7037, .cells 3 [zz]), (h7040, .cells 3 [.int .i64 (.ofNat 9)]), (h7045, .cells 28 [zz, zz, ee]), (h7048, .cells 108 [zz, zz, .sli h7045 0 1 (.ex 1), .nils]), (h7049, .cells 112 [zz, zz, .sli h7048 0 1 (.ex 1)])], h7053, .int .i64 (.ofNat 5), [(h109, .cells 9 [.str 1 120]), (h221, .cells 3 [.int .i64 (.ofNat 3), mm, mm, .int .i64 (.ofNat 5), mm, zz]), (h223, .cells 3 [mm, zz, zz, mm, .int .i64 (.ofNat 3), mm]), (h232, .cells 30 [.sli h109 0 1 (.op 1)]), (h234, .cells 22 [.sli h221 0 6 (.op 1)]), (h236, .cells 22 [.sli h223 0 6 (.op 1)]), (h258, .cells 79 [.nils, .sli h262 0 1 (.op 3), .sli h232 0 1 (.op 1), .sli h234 0 1 (.op 1), .sli h236 0 1 (.op 1), .nils, .nils, .nils, .sli h270 0 1 (.op 1), .sli h272 0 1 (.op 1), zz, .sli h7456 0 0 (.op 3), .nils, .nils, zz, .int .i64 (.ofNat 1), mm, .int .i64 (.ofNat 5), .sli h7040 0 1 (.op 1), .sli h7037 0 1 (.ex 1), zz, zz, zz, .ptr h274 0, .sli h277 0 1 (.op 1), .sli h1696 0 1 (.op 1), .sli h3535 0 1 (.op 1), .sli h7461 0 2 (.op 6)]), (h262, .cells 38 [.str 4 1835100526, .sli h266 0 0 (.ex 0), .sli h265 0 6 (.op 9)]), (h265, .cells 32 [.int .i64 (.ofNat 39), ee, ee, ee, ee, .nils, zz, zz, ee, .int .i64 (.ofNat 1), .str 1 120, ee, ee, ee, .nils, .int .i64 (.ofNat 3), .int .i64 (.ofNat 1), ee, .int .i64 (.ofNat 35), .str 1 120, ee, ee, ee, .nils, zz, zz, ee, .int .i64 (.ofNat 41), ee, ee, ee, ee, .nils, zz, zz, ee, .int .i64 (.ofNat 29), .str 1 120, ee, ee, ee, .nils, zz, zz, ee, .int .i64 (.ofNat 42), ee, ee, ee, ee, .nils, zz, zz, ee]), (h266, .cells 9 []), (h270, .cells 3 [.int .i64 (.ofNat 9)]), (h272, .cells 3 [.int .i64 (.ofNat 500)]), (h273, .map [] 0), (h274, .cells 158 [.map h273, zz]), (h277, .cells 9 [.str 4 1835100526]), (h1663, .cells 4 [.bool false]), (h1668, .cells 4 [.bool false]), (h1673, .cells 4 [.bool true]), (h1678, .cells 4 [.bool true]), (h1683, .cells 4 [.bool true]), (h1688, .cells 4 [.bool false]), (h1693, .cells 4 [.bool false]), (h1695, .cells 170 [.sli h1663 0 1 (.op 1), .sli h1668 0 1 (.op 1), .sli h1673 0 1 (.op 1), .sli h1678 0 1 (.op 1), .sli h1683 0 1 (.op 1), .sli h1688 0 1 (.op 1), .sli h1693 0 1 (.op 1)]), (h1696, .cells 103 [.sli h1695 0 7 (.op 1)]), (h3507, .cells 4 [.bool false]), (h3512, .cells 4 [.bool false]), (h3517, .cells 4 [.bool true]), (h3522, .cells 4 [.bool true]), (h3527, .cells 4 [.bool false]), (h3532, .cells 4 [.bool false]), (h3534, .cells 170 [.sli h3507 0 1 (.op 1), .sli h3512 0 1 (.op 1), .sli h3517 0 1 (.op 1), .sli h3522 0 1 (.op 1), .sli h3527 0 1 (.op 1), .sli h3532 0 1 (.op 1)]), (h3535, .cells 103 [.sli h3534 0 6 (.op 1)]), (h7037, .cells 3 [zz]), (h7040, .cells 3 [.int .i64 (.ofNat 4)]), (h7045, .cells 28 [zz, zz, ee]), (h7048, .cells 108 [zz, .int .i64 (.ofNat 5), .sli h7045 0 1 (.ex 1), .sli h7419 0 0 (.ex 0)]), (h7049, .cells 112 [zz, zz, .sli h7048 0 0 (.ex 1)]), (h7419, .cells 235 []), (h7456, .cells 112 [zz, zz, .nils]), (h7461, .cells 56 [.int .i64 (.ofNat 1), zz, zz, zz, .int .i64 (.ofNat 4), .str 1 49, .int .i64 (.ofNat 4), zz, zz, zz, .int .i64 (.ofNat 6), .str 1 49])], h7468⟩
theorem t2 : e2.ends ((cfOf ShA.sum).call e2.f e2.args e2.start) = some e2.v := by kernel_rfl
noncomputable def tb : List HEnt := [e0, e1, e2]
noncomputable def sum : Nat → List AV → St → CR := sumH tb ShA.sum
section
variable {ρ : Nat → Value} {w0 : World}
theorem sum_ok (hC : Ctx Tryz.prog ρ w0) (h0 : CallOk Tryz.prog ρ w0 sum0) : CallOk Tryz.prog ρ w0 sum := by
  refine sumH_ok (fun x hx => ?_) (ShA.sum_ok hC h0)
  simp only [tb, List.mem_cons, List.not_mem_nil, or_false] at hx
  rcases hx with rfl | rfl | rfl
  · exact goH_ok hC (ShA.sum_ok hC h0) t0
  · exact goH_ok hC (ShA.sum_ok hC h0) t1
  · exact goH_ok hC (ShA.sum_ok hC h0) t2
end
theorem run2 : go sum 13 [.str 57 74470962157991652813028883906502648317450688258874781898493868887394967445673400049672058018815329530349507642110032964737788934748005130, .int .i64 (.ofNat 9)] = some (.str 10 232304474508036950472251) := by kernel_rfl
end ShB
end Go.Ev.Tb
