/-
  DERIVED. GIVEN WITH THE SEED: THE CARDS: each row of YtoebddanaobpaaaGreatDoorRows.lean that lists a variable, with what it lists TIED to the program's text (the seventh form; the later family's looks); each row that meets fmt, with fmt's text TOLD by the authors' own Lean function (tested against real Go, not proved from fmt's source: count such statements apart). THE CARD IS WHAT COUNTS. Prove the row's statement (the work); the ties are given (YtoebddanaobpaaaGreatDoorTie.lean); close each card by the builder's one call (the guide's Derived/Test/ToyasCard.lean, 'card_holds'). Laid BY PROGRAM, IN A SANDBOX (cutbox-door.mjs). By AI agents, Wed Nov 11 2026. No macro, syntax, notation, axiom, sorry.
-/
import Derived.Test.YtoebddanaobpaaaGreatDoorRows
import GoSem.ClaimSeven
namespace Go.Proofs.YtoebddanaobpaaaGreatDoor
namespace Rows

/-- THE TIED CARD OF 'gladstonelaw02.FeeCheaps'. -/
def feeCheapsCard : Claim7 := { stood := { row := feeCheapsRow, standIns := [], harness := (true, "bc814cc3f000d3fb121ffc95e3e049ff770a0cbadc6cbe54b26546686e1abe66"), looks := true }, kinds := [], alts := [], goes := true, laidByText := true, laidKinds := [.handle], laidTests := true, laidLooks := .later }
def FeeCheapsCardSaid : Prop := Claim7.holds Tryz.pinned (.plain (OpenSpec.ofChange feeCheapsSpec)) feeCheapsCard
end Rows
end Go.Proofs.YtoebddanaobpaaaGreatDoor
