/-
Proved here: the closed facts of the row.
Conditions: none beyond those that the statements name.
-/
import Derived.Test.YtiljcnaeckeilaaGreatDoorCards
import Derived.JoinedCond
import Derived.KernelRfl
set_option maxRecDepth 100000
namespace Go.Proofs.YtiljcnaeckeilaaGreatDoor.srcOps
open Go
theorem q0 : (Rows.sourceOperatorsRow.wf (OpenSpec.ofChange (OpenSpec.ofChange Rows.sourceOperatorsSpec).bare)) = true := by kernel_rfl
theorem q1 : (laidOutB Tryz.prog) = true := by kernel_rfl
theorem q2 : (mapsRowed Tryz.prog) = true := by kernel_rfl
theorem q3 : (Tryz.f3.params.all (Tryz.prog.readableRec ·)) = true := by kernel_rfl
theorem q4 : (namedTie Tryz.prog Rows.sourceOperatorsRow.named (OpenSpec.ofChange Rows.sourceOperatorsSpec).bare.vars) = true := by kernel_rfl
theorem q5 : ((Rows.sourceOperatorsRow.stops == [])) = true := by kernel_rfl
theorem q6 : ((Tryz.prog.stops == [])) = true := by kernel_rfl
theorem q7 : ((Rows.sourceOperatorsRow.knobs == [])) = true := by kernel_rfl
theorem q8 : ((Tryz.prog.stopKnobs == [])) = true := by kernel_rfl
theorem q9 : ((Rows.sourceOperatorsRow.inPlace == Tryz.prog.inPlace 3)) = true := by kernel_rfl
theorem q10 : ((Rows.sourceOperatorsRow.unfollowed == Tryz.prog.unfollowed 3)) = true := by kernel_rfl
theorem q11 : ((Rows.sourceOperatorsRow.recurses == Tryz.prog.recurses 3)) = true := by kernel_rfl
theorem q12 : ((Rows.sourceOperatorsRow.named == Tryz.prog.varsNamed 3)) = true := by kernel_rfl
theorem q13 : ((Rows.sourceOperatorsRow.maps == (Tryz.f3.params.toList ++ (OpenSpec.ofChange Rows.sourceOperatorsSpec).bare.plain.varTypes Tryz.prog).any (Tryz.prog.mapsRec ·))) = true := by kernel_rfl
theorem q14 : ((Rows.sourceOperatorsRow.ifaces == (Tryz.f3.params.toList ++ (OpenSpec.ofChange Rows.sourceOperatorsSpec).bare.plain.varTypes Tryz.prog).any (Tryz.prog.ifacesRec ·))) = true := by kernel_rfl
theorem q15 : ((Rows.sourceOperatorsRow.mapsOut == Tryz.prog.mapsAmong Tryz.f3.resultTypes.toList)) = true := by kernel_rfl
theorem q16 : ((Rows.sourceOperatorsRow.loops == (Tryz.f3.params.toList ++ (OpenSpec.ofChange Rows.sourceOperatorsSpec).bare.plain.varTypes Tryz.prog).any (Tryz.prog.loopsFrom ·))) = true := by kernel_rfl
theorem q17 : ((Rows.sourceOperatorsRow.wideKeys == (Tryz.f3.params.toList ++ (OpenSpec.ofChange Rows.sourceOperatorsSpec).bare.plain.varTypes Tryz.prog ++ Tryz.f3.resultTypes.toList).any (Tryz.prog.wideKeysFrom ·))) = true := by kernel_rfl
theorem q18 : ((OpenSpec.ofChange Rows.sourceOperatorsSpec).bare.vars.all (Tryz.prog.varReadable ·)) = true := by kernel_rfl
theorem q19 : (Tryz.f3.resultTypes.all (fun t => Tryz.prog.readableRec t && decide (t < Tryz.prog.types.size))) = true := by kernel_rfl
theorem q20 : ((Rows.sourceOperatorsRow.ifacesOut == Tryz.f3.resultTypes.toList.any (Tryz.prog.ifacesRec ·))) = true := by kernel_rfl
theorem q21 : ((Rows.sourceOperatorsRow.loopsOut == Tryz.f3.resultTypes.toList.any (Tryz.prog.loopsFrom ·))) = true := by kernel_rfl
theorem q22 : ((Rows.sourceOperatorsRow.plainKeys == Tryz.prog.plainKeys)) = true := by kernel_rfl
theorem q23 : (Rows.sourceOperatorsRow.shortTexts.isNone) = true := by kernel_rfl
theorem q24 : (Tryz.prog.stopsHeard) = true := by kernel_rfl
theorem q25 : (Tryz.prog.mayEnter) = true := by kernel_rfl
theorem q26 : ((Rows.sourceOperatorsRow.lifted == Tryz.prog.liftsFinal)) = true := by kernel_rfl
theorem q27 : ((Tryz.prog.make == some Rows.sourceOperatorsRow.make)) = true := by kernel_rfl
theorem q28 : ((Rows.sourceOperatorsRow.kinds == (if Rows.sourceOperatorsRow.domain.isEmpty then [] else Tryz.f3.params.toList.map fun t => match Tryz.prog.underlying t with | some (.int k) => some k | _ => none))) = true := by kernel_rfl
theorem q29 : ((Rows.sourceOperatorsRow.pinned == Rows.sourceOperatorsRow.pinnedBy)) = true := by kernel_rfl
theorem q30 : ((Rows.sourceOperatorsRow.veiled == (Tryz.f3.params.toList ++ (OpenSpec.ofChange Rows.sourceOperatorsSpec).bare.plain.varTypes Tryz.prog ++ Tryz.f3.resultTypes.toList).any (Tryz.prog.veiledRec ·))) = true := by kernel_rfl
theorem q31 : (Rows.sourceOperatorsRow.veiledFits Tryz.prog Tryz.f3.params.toList (Tryz.f3.params.toList ++ (OpenSpec.ofChange Rows.sourceOperatorsSpec).bare.plain.varTypes Tryz.prog ++ Tryz.f3.resultTypes.toList)) = true := by kernel_rfl
theorem and2 {a b : Bool} (ha : a = true) (hb : b = true) : (a && b) = true := by rw [ha, hb]; rfl
theorem closed : joinedFacts Tryz.prog 3 Tryz.f3 (OpenSpec.ofChange Rows.sourceOperatorsSpec).bare Rows.sourceOperatorsRow = true := by
  unfold joinedFacts
  exact (and2 (and2 (and2 (and2 (and2 (and2 (and2 (and2 (and2 (and2 (and2 (and2 (and2 (and2 (and2 (and2 (and2 (and2 (and2 (and2 (and2 (and2 (and2 (and2 (and2 (and2 (and2 (and2 (and2 (and2 (and2 q0 q1) q2) q3) q4) q5) q6) q7) q8) q9) q10) q11) q12) q13) q14) q15) q16) q17) q18) q19) q20) q21) q22) q23) q24) q25) q26) q27) q28) q29) q30) q31)
theorem inst : Tryz.f3.isInstance Tryz.pinned.checked.prog Rows.sourceOperatorsRow.origin Rows.sourceOperatorsRow.targs := of_decide_eq_true (by kernel_rfl)
theorem wrapper : Tryz.f3.isWrapper Tryz.pinned.checked.prog Rows.sourceOperatorsRow.wrapper Rows.sourceOperatorsRow.mainSum := by
  unfold Func.isWrapper; first | (rw [if_pos (by decide +kernel)]; kernel_rfl) | (rw [if_neg (by decide +kernel)]; exact ⟨rfl, rfl⟩)
end Go.Proofs.YtiljcnaeckeilaaGreatDoor.srcOps
