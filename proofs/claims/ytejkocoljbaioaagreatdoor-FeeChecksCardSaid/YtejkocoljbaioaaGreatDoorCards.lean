/-
  DERIVED. GIVEN WITH THE SEED: THE CARDS: each row of YtejkocoljbaioaaGreatDoorRows.lean that lists a variable, with what it lists TIED to the program's text (the seventh form; the later family's looks); each row that meets fmt, with fmt's text TOLD by the authors' own Lean function (tested against real Go, not proved from fmt's source: count such statements apart). THE CARD IS WHAT COUNTS. Prove the row's statement (the work); the ties are given (YtejkocoljbaioaaGreatDoorTie.lean); close each card by the builder's one call (the guide's Derived/Test/ToyasCard.lean, 'card_holds'). Laid BY PROGRAM, IN A SANDBOX (cutbox-door.mjs). By AI agents, Wed Nov 11 2026. No macro, syntax, notation, axiom, sorry.
-/
import Derived.Test.YtejkocoljbaioaaGreatDoorRows
import GoSem.ClaimSeven
namespace Go.Proofs.YtejkocoljbaioaaGreatDoor
namespace Rows

/-- THE TIED CARD OF 'gladstonelaw02.FeeChecks'. -/
def feeChecksCard : Claim7 := { stood := { row := feeChecksRow, standIns := [], harness := (true, "bf56f63494b8568dfcc358d55a6ca8ec08649a9a9405582a8df511006f2dbd64"), looks := true }, kinds := [], alts := [], goes := true, laidByText := true, laidKinds := [.handle], laidTests := true, laidLooks := .later }
def FeeChecksCardSaid : Prop := Claim7.holds Tryz.pinned (.plain (OpenSpec.ofChange feeChecksSpec)) feeChecksCard
end Rows
end Go.Proofs.YtejkocoljbaioaaGreatDoor
