/-
  DERIVED. GIVEN WITH THE SEED: THE CARDS: each row of YthiiblonjmmnfaaGreatDoorRows.lean that lists a variable, with what it lists TIED to the program's text (the seventh form; the later family's looks); each row that meets fmt, with fmt's text TOLD by the authors' own Lean function (tested against real Go, not proved from fmt's source: count such statements apart). THE CARD IS WHAT COUNTS. Prove the row's statement (the work); the ties are given (YthiiblonjmmnfaaGreatDoorTie.lean); close each card by the builder's one call (the guide's Derived/Test/ToyasCard.lean, 'card_holds'). Laid BY PROGRAM, IN A SANDBOX (cutbox-door.mjs). By AI agents, Wed Nov 11 2026. No macro, syntax, notation, axiom, sorry.
-/
import Derived.Test.YthiiblonjmmnfaaGreatDoorRows
import GoSem.ClaimSeven
namespace Go.Proofs.YthiiblonjmmnfaaGreatDoor
namespace Rows

/-- THE TIED CARD OF 'gladstonelaw02.FeeAll'. -/
def feeAllCard : Claim7 := { stood := { row := feeAllRow, standIns := [], harness := (true, "88084a2330e90925f1809ca23b226ccaec1042b5540710b9d68e77f6d21f4656"), looks := true }, kinds := [], alts := [], goes := true, laidByText := true, laidKinds := [.handle], laidTests := true, laidLooks := .later }
def FeeAllCardSaid : Prop := Claim7.holds Tryz.pinned (.plain (OpenSpec.ofChange feeAllSpec)) feeAllCard
end Rows
end Go.Proofs.YthiiblonjmmnfaaGreatDoor
