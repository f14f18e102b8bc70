/-
  DERIVED. GIVEN WITH THE SEED: THE CARDS: each row of YtkifbmfagkjikaaGreatDoorRows.lean that lists a variable, with what it lists TIED to the program's text (the seventh form; the later family's looks); each row that meets fmt, with fmt's text TOLD by the authors' own Lean function (tested against real Go, not proved from fmt's source: count such statements apart). THE CARD IS WHAT COUNTS. Prove the row's statement (the work); the ties are given (YtkifbmfagkjikaaGreatDoorTie.lean); close each card by the builder's one call (the guide's Derived/Test/ToyasCard.lean, 'card_holds'). Laid BY PROGRAM, IN A SANDBOX (cutbox-door.mjs). By AI agents, Wed Nov 11 2026. No macro, syntax, notation, axiom, sorry.
-/
import Derived.Test.YtkifbmfagkjikaaGreatDoorRows
import GoSem.ClaimSeven
namespace Go.Proofs.YtkifbmfagkjikaaGreatDoor
namespace Rows

/-- THE TIED CARD OF 'gladstonelaw02.FeeUntils'. -/
def feeUntilsCard : Claim7 := { stood := { row := feeUntilsRow, standIns := [], harness := (true, "8e4810b1bf535af0b4c006100d80e05b627689d5fde439a6ca32b9c2a79341fb"), looks := true }, kinds := [], alts := [], goes := true, laidByText := true, laidKinds := [.handle], laidTests := true, laidLooks := .later }
def FeeUntilsCardSaid : Prop := Claim7.holds Tryz.pinned (.plain (OpenSpec.ofChange feeUntilsSpec)) feeUntilsCard
end Rows
end Go.Proofs.YtkifbmfagkjikaaGreatDoor
