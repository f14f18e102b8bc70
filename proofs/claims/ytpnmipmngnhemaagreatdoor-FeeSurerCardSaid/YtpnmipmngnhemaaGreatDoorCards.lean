/-
  DERIVED. GIVEN WITH THE SEED: THE CARDS: each row of YtpnmipmngnhemaaGreatDoorRows.lean that lists a variable, with what it lists TIED to the program's text (the seventh form; the later family's looks); each row that meets fmt, with fmt's text TOLD by the authors' own Lean function (tested against real Go, not proved from fmt's source: count such statements apart). THE CARD IS WHAT COUNTS. Prove the row's statement (the work); the ties are given (YtpnmipmngnhemaaGreatDoorTie.lean); close each card by the builder's one call (the guide's Derived/Test/ToyasCard.lean, 'card_holds'). Laid BY PROGRAM, IN A SANDBOX (cutbox-door.mjs). By AI agents, Wed Nov 11 2026. No macro, syntax, notation, axiom, sorry.
-/
import Derived.Test.YtpnmipmngnhemaaGreatDoorRows
import GoSem.ClaimSeven
namespace Go.Proofs.YtpnmipmngnhemaaGreatDoor
namespace Rows

/-- THE TIED CARD OF 'gladstonelaw02.FeeLater'. -/
def feeLaterCard : Claim7 := { stood := { row := feeLaterRow, standIns := [], harness := (true, "1e72b21553e005598baed9e5044fd4122232fcda2485c28f57d71aabcccc648f"), looks := true }, kinds := [], alts := [], goes := true, laidByText := true, laidKinds := [.handle], laidTests := true, laidLooks := .later }
def FeeLaterCardSaid : Prop := Claim7.holds Tryz.pinned (.plain (OpenSpec.ofChange feeLaterSpec)) feeLaterCard

/-- THE TIED CARD OF 'gladstonelaw02.FeeFree'. -/
def feeFreeCard : Claim7 := { stood := { row := feeFreeRow, standIns := [], harness := (true, "1e72b21553e005598baed9e5044fd4122232fcda2485c28f57d71aabcccc648f"), looks := true }, kinds := [], alts := [], goes := true, laidByText := true, laidKinds := [.handle], laidTests := true, laidLooks := .later }
def FeeFreeCardSaid : Prop := Claim7.holds Tryz.pinned (.plain (OpenSpec.ofChange feeFreeSpec)) feeFreeCard

/-- THE TIED CARD OF 'gladstonelaw02.FeeSurer'. -/
def feeSurerCard : Claim7 := { stood := { row := feeSurerRow, standIns := [], harness := (true, "1e72b21553e005598baed9e5044fd4122232fcda2485c28f57d71aabcccc648f"), looks := true }, kinds := [], alts := [], goes := true, laidByText := true, laidKinds := [.handle], laidTests := true, laidLooks := .later }
def FeeSurerCardSaid : Prop := Claim7.holds Tryz.pinned (.plain (OpenSpec.ofChange feeSurerSpec)) feeSurerCard

/-- THE TIED CARD OF 'gladstonelaw02.FeeAll'. -/
def feeAllCard : Claim7 := { stood := { row := feeAllRow, standIns := [], harness := (true, "1e72b21553e005598baed9e5044fd4122232fcda2485c28f57d71aabcccc648f"), looks := true }, kinds := [], alts := [], goes := true, laidByText := true, laidKinds := [.handle], laidTests := true, laidLooks := .later }
def FeeAllCardSaid : Prop := Claim7.holds Tryz.pinned (.plain (OpenSpec.ofChange feeAllSpec)) feeAllCard
end Rows
end Go.Proofs.YtpnmipmngnhemaaGreatDoor
