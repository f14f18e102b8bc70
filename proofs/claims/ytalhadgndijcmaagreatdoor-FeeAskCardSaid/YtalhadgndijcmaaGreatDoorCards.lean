/-
  DERIVED. GIVEN WITH THE SEED: THE CARDS: each row of YtalhadgndijcmaaGreatDoorRows.lean that lists a variable, with what it lists TIED to the program's text (the seventh form; the later family's looks); each row that meets fmt, with fmt's text TOLD by the authors' own Lean function (tested against real Go, not proved from fmt's source: count such statements apart). THE CARD IS WHAT COUNTS. Prove the row's statement (the work); the ties are given (YtalhadgndijcmaaGreatDoorTie.lean); close each card by the builder's one call (the guide's Derived/Test/ToyasCard.lean, 'card_holds'). Laid BY PROGRAM, IN A SANDBOX (cutbox-door.mjs). By AI agents, Wed Nov 11 2026. No macro, syntax, notation, axiom, sorry.
-/
import Derived.Test.YtalhadgndijcmaaGreatDoorRows
import GoSem.ClaimSeven
namespace Go.Proofs.YtalhadgndijcmaaGreatDoor
namespace Rows

/-- THE TIED CARD OF 'gladstonelaw02.FeeUntils'. -/
def feeUntilsCard : Claim7 := { stood := { row := feeUntilsRow, standIns := [], harness := (true, "1f88c90e5c791502b70ce72e3325ad9c03d054959b0ba62d78cba7e1a1d894ef"), looks := true }, kinds := [], alts := [], goes := true, laidByText := true, laidKinds := [.handle], laidTests := true, laidLooks := .later }
def FeeUntilsCardSaid : Prop := Claim7.holds Tryz.pinned (.plain (OpenSpec.ofChange feeUntilsSpec)) feeUntilsCard

/-- THE TIED CARD OF 'gladstonelaw02.FeeCheaps'. -/
def feeCheapsCard : Claim7 := { stood := { row := feeCheapsRow, standIns := [], harness := (true, "1f88c90e5c791502b70ce72e3325ad9c03d054959b0ba62d78cba7e1a1d894ef"), looks := true }, kinds := [], alts := [], goes := true, laidByText := true, laidKinds := [.handle], laidTests := true, laidLooks := .later }
def FeeCheapsCardSaid : Prop := Claim7.holds Tryz.pinned (.plain (OpenSpec.ofChange feeCheapsSpec)) feeCheapsCard

/-- THE TIED CARD OF 'gladstonelaw02.FeeParted'. -/
def feePartedCard : Claim7 := { stood := { row := feePartedRow, standIns := [], harness := (true, "1f88c90e5c791502b70ce72e3325ad9c03d054959b0ba62d78cba7e1a1d894ef"), looks := true }, kinds := [], alts := [], goes := true, laidByText := true, laidKinds := [.handle], laidTests := true, laidLooks := .later }
def FeePartedCardSaid : Prop := Claim7.holds Tryz.pinned (.plain (OpenSpec.ofChange feePartedSpec)) feePartedCard

/-- THE TIED CARD OF 'gladstonelaw02.FeeLonger'. -/
def feeLongerCard : Claim7 := { stood := { row := feeLongerRow, standIns := [], harness := (true, "1f88c90e5c791502b70ce72e3325ad9c03d054959b0ba62d78cba7e1a1d894ef"), looks := true }, kinds := [], alts := [], goes := true, laidByText := true, laidKinds := [.handle], laidTests := true, laidLooks := .later }
def FeeLongerCardSaid : Prop := Claim7.holds Tryz.pinned (.plain (OpenSpec.ofChange feeLongerSpec)) feeLongerCard

/-- THE TIED CARD OF 'gladstonelaw02.FeeAsk'. -/
def feeAskCard : Claim7 := { stood := { row := feeAskRow, standIns := [], harness := (true, "1f88c90e5c791502b70ce72e3325ad9c03d054959b0ba62d78cba7e1a1d894ef"), looks := true }, kinds := [], alts := [], goes := true, laidByText := true, laidKinds := [.handle], laidTests := true, laidLooks := .later }
def FeeAskCardSaid : Prop := Claim7.holds Tryz.pinned (.plain (OpenSpec.ofChange feeAskSpec)) feeAskCard

/-- THE TIED CARD OF 'gladstonelaw02.FeeUntil'. -/
def feeUntilCard : Claim7 := { stood := { row := feeUntilRow, standIns := [], harness := (true, "1f88c90e5c791502b70ce72e3325ad9c03d054959b0ba62d78cba7e1a1d894ef"), looks := true }, kinds := [], alts := [], goes := true, laidByText := true, laidKinds := [.handle], laidTests := true, laidLooks := .later }
def FeeUntilCardSaid : Prop := Claim7.holds Tryz.pinned (.plain (OpenSpec.ofChange feeUntilSpec)) feeUntilCard

/-- THE TIED CARD OF 'gladstonelaw02.FeeCheap'. -/
def feeCheapCard : Claim7 := { stood := { row := feeCheapRow, standIns := [], harness := (true, "1f88c90e5c791502b70ce72e3325ad9c03d054959b0ba62d78cba7e1a1d894ef"), looks := true }, kinds := [], alts := [], goes := true, laidByText := true, laidKinds := [.handle], laidTests := true, laidLooks := .later }
def FeeCheapCardSaid : Prop := Claim7.holds Tryz.pinned (.plain (OpenSpec.ofChange feeCheapSpec)) feeCheapCard

/-- THE TIED CARD OF 'gladstonelaw02.FeeCarried'. -/
def feeCarriedCard : Claim7 := { stood := { row := feeCarriedRow, standIns := [], harness := (true, "1f88c90e5c791502b70ce72e3325ad9c03d054959b0ba62d78cba7e1a1d894ef"), looks := true }, kinds := [], alts := [], goes := true, laidByText := true, laidKinds := [.handle], laidTests := true, laidLooks := .later }
def FeeCarriedCardSaid : Prop := Claim7.holds Tryz.pinned (.plain (OpenSpec.ofChange feeCarriedSpec)) feeCarriedCard

/-- THE TIED CARD OF 'gladstonelaw02.FeeDearer'. -/
def feeDearerCard : Claim7 := { stood := { row := feeDearerRow, standIns := [], harness := (true, "1f88c90e5c791502b70ce72e3325ad9c03d054959b0ba62d78cba7e1a1d894ef"), looks := true }, kinds := [], alts := [], goes := true, laidByText := true, laidKinds := [.handle], laidTests := true, laidLooks := .later }
def FeeDearerCardSaid : Prop := Claim7.holds Tryz.pinned (.plain (OpenSpec.ofChange feeDearerSpec)) feeDearerCard

/-- THE TIED CARD OF 'gladstonelaw02.FeeLater'. -/
def feeLaterCard : Claim7 := { stood := { row := feeLaterRow, standIns := [], harness := (true, "1f88c90e5c791502b70ce72e3325ad9c03d054959b0ba62d78cba7e1a1d894ef"), looks := true }, kinds := [], alts := [], goes := true, laidByText := true, laidKinds := [.handle], laidTests := true, laidLooks := .later }
def FeeLaterCardSaid : Prop := Claim7.holds Tryz.pinned (.plain (OpenSpec.ofChange feeLaterSpec)) feeLaterCard

/-- THE TIED CARD OF 'gladstonelaw02.FeeNumbered'. -/
def feeNumberedCard : Claim7 := { stood := { row := feeNumberedRow, standIns := [], harness := (true, "1f88c90e5c791502b70ce72e3325ad9c03d054959b0ba62d78cba7e1a1d894ef"), looks := true }, kinds := [], alts := [], goes := true, laidByText := true, laidKinds := [.handle], laidTests := true, laidLooks := .later }
def FeeNumberedCardSaid : Prop := Claim7.holds Tryz.pinned (.plain (OpenSpec.ofChange feeNumberedSpec)) feeNumberedCard

/-- THE TIED CARD OF 'gladstonelaw02.FeeMidnights'. -/
def feeMidnightsCard : Claim7 := { stood := { row := feeMidnightsRow, standIns := [], harness := (true, "1f88c90e5c791502b70ce72e3325ad9c03d054959b0ba62d78cba7e1a1d894ef"), looks := true }, kinds := [], alts := [], goes := true, laidByText := true, laidKinds := [.handle], laidTests := true, laidLooks := .later }
def FeeMidnightsCardSaid : Prop := Claim7.holds Tryz.pinned (.plain (OpenSpec.ofChange feeMidnightsSpec)) feeMidnightsCard
end Rows
end Go.Proofs.YtalhadgndijcmaaGreatDoor
