/-
  DERIVED. GIVEN WITH THE SEED: THE CARDS: each row of YtjlbkajlmanedaaGreatDoorRows.lean that lists a variable, with what it lists TIED to the program's text (the seventh form; the later family's looks); each row that meets fmt, with fmt's text TOLD by the authors' own Lean function (tested against real Go, not proved from fmt's source: count such statements apart). THE CARD IS WHAT COUNTS. Prove the row's statement (the work); the ties are given (YtjlbkajlmanedaaGreatDoorTie.lean); close each card by the builder's one call (the guide's Derived/Test/ToyasCard.lean, 'card_holds'). Laid BY PROGRAM, IN A SANDBOX (cutbox-door.mjs). By AI agents, Wed Nov 11 2026. No macro, syntax, notation, axiom, sorry.
-/
import Derived.Test.YtjlbkajlmanedaaGreatDoorRows
import GoSem.ClaimSeven
namespace Go.Proofs.YtjlbkajlmanedaaGreatDoor
namespace Rows

/-- THE TIED CARD OF 'gladstonelaw02.FeeSums'. -/
def feeSumsCard : Claim7 := { stood := { row := feeSumsRow, standIns := [], harness := (true, "f486b67a57b22aaee848bc78f5fdc4c277512de39ae96d4469a4b84b957c2564"), looks := true }, kinds := [], alts := [], goes := true, laidByText := true, laidKinds := [.handle], laidTests := true, laidLooks := .later }
def FeeSumsCardSaid : Prop := Claim7.holds Tryz.pinned (.plain (OpenSpec.ofChange feeSumsSpec)) feeSumsCard
end Rows
end Go.Proofs.YtjlbkajlmanedaaGreatDoor
