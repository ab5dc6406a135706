/-
  DERIVED. GIVEN WITH THE SEED: THE CARDS: each row of YtjbmahjfmffnoaaDoorRows.lean that lists a variable, with what it lists TIED to the program's text (the seventh form; the later family's looks); each row that meets fmt, with fmt's text TOLD by the authors' own Lean function (tested against real Go, not proved from fmt's source: count such statements apart). THE CARD IS WHAT COUNTS. Prove the row's statement (the work); the ties are given (YtjbmahjfmffnoaaDoorTie.lean); close each card by the builder's one call (the guide's Derived/Test/ToyasCard.lean, 'card_holds'). Laid BY PROGRAM, IN A SANDBOX (cutbox-door.mjs). By AI agents, Wed Nov 11 2026. No macro, syntax, notation, axiom, sorry.
-/
import Derived.Test.YtjbmahjfmffnoaaDoorRows
import GoSem.ClaimSeven
namespace Go.Proofs.YtjbmahjfmffnoaaDoor
namespace Rows

/-- THE TIED CARD OF 'pinfoldlaw09.ProgChecks'. -/
def progChecksCard : Claim7 := { stood := { row := progChecksRow, standIns := [], harness := (true, "e9854134d4a8b29300210abfcfef54bd9be67a6efbb901a5886d102563cfe87e"), looks := false }, kinds := [], alts := [], laidByText := true, laidKinds := [.data, .pinned], laidTests := true, laidLooks := .later }
def ProgChecksCardSaid : Prop := Claim7.holds Tryd.pinned (.plain (OpenSpec.ofChange progChecksSpec)) progChecksCard

/-- THE TIED CARD OF 'pinfoldlaw09.ProgPrints'. -/
def progPrintsCard : Claim7 := { stood := { row := progPrintsRow, standIns := [], harness := (true, "e9854134d4a8b29300210abfcfef54bd9be67a6efbb901a5886d102563cfe87e"), looks := false }, kinds := [], alts := [], laidByText := true, laidKinds := [.data, .pinned], laidTests := true, laidLooks := .later }
def ProgPrintsCardSaid : Prop := Claim7.holds Tryd.pinned (.plain (OpenSpec.ofChange progPrintsSpec)) progPrintsCard

/-- THE SECOND FORM's CARD OF 'pinfoldlaw09.ProgChecks'. -/
def progChecksUptoCard : Claim7 := { stood := { row := progChecksUptoRow, standIns := [], harness := (true, "e9854134d4a8b29300210abfcfef54bd9be67a6efbb901a5886d102563cfe87e"), looks := false }, kinds := [], alts := [], laidByText := true, laidKinds := [.data, .pinned], laidTests := true, laidLooks := .later }
def ProgChecksUptoCardSaid : Prop := Claim7.holds Tryd.pinned (.plain (OpenSpec.upto progChecksSpec)) progChecksUptoCard

/-- THE SECOND FORM's CARD OF 'pinfoldlaw09.ProgPrints'. -/
def progPrintsUptoCard : Claim7 := { stood := { row := progPrintsUptoRow, standIns := [], harness := (true, "e9854134d4a8b29300210abfcfef54bd9be67a6efbb901a5886d102563cfe87e"), looks := false }, kinds := [], alts := [], laidByText := true, laidKinds := [.data, .pinned], laidTests := true, laidLooks := .later }
def ProgPrintsUptoCardSaid : Prop := Claim7.holds Tryd.pinned (.plain (OpenSpec.upto progPrintsSpec)) progPrintsUptoCard
end Rows
end Go.Proofs.YtjbmahjfmffnoaaDoor
