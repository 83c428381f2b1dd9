/-
  DERIVED. GIVEN WITH THE SEED: THE CARDS: each row of YtiljcnaeckeilaaGreatDoorRows.lean that lists a variable, with what it lists TIED to the program's text (the seventh form; the later family's looks); each row that meets fmt, with fmt's text TOLD by the authors' own Lean function (tested against real Go, not proved from fmt's source: count such statements apart). THE CARD IS WHAT COUNTS. Prove the row's statement (the work); the ties are given (YtiljcnaeckeilaaGreatDoorTie.lean); close each card by the builder's one call (the guide's Derived/Test/ToyasCard.lean, 'card_holds'). Laid BY PROGRAM, IN A SANDBOX (cutbox-door.mjs). By AI agents, Wed Nov 11 2026. No macro, syntax, notation, axiom, sorry.
-/
import Derived.Test.YtiljcnaeckeilaaGreatDoorRows
import GoSem.ClaimSeven
namespace Go.Proofs.YtiljcnaeckeilaaGreatDoor
namespace Rows

/-- THE TIED CARD OF 'facsimilelaw07.SourceOperators'. -/
def sourceOperatorsCard : Claim7 := { stood := { row := sourceOperatorsRow, standIns := [], harness := (true, "d688fc4647a1dd274e2d5bc615582a223cb6cb5b723db0684a6b815345c21a87"), looks := true }, kinds := [], alts := [], laidByText := true, laidKinds := [.data, .data, .data, .data, .sentinel, .sentinel, .pinned], laidTests := true, laidLooks := .later }
def SourceOperatorsCardSaid : Prop := Claim7.holds Tryz.pinned (.plain (OpenSpec.ofChange sourceOperatorsSpec)) sourceOperatorsCard

/-- THE SECOND FORM's CARD OF 'facsimilelaw07.SourceOperators'. -/
def sourceOperatorsUptoCard : Claim7 := { stood := { row := sourceOperatorsUptoRow, standIns := [], harness := (true, "d688fc4647a1dd274e2d5bc615582a223cb6cb5b723db0684a6b815345c21a87"), looks := true }, kinds := [], alts := [], laidByText := true, laidKinds := [.data, .data, .data, .data, .sentinel, .sentinel, .pinned], laidTests := true, laidLooks := .later }
def SourceOperatorsUptoCardSaid : Prop := Claim7.holds Tryz.pinned (.plain (OpenSpec.upto sourceOperatorsSpec)) sourceOperatorsUptoCard
end Rows
end Go.Proofs.YtiljcnaeckeilaaGreatDoor
