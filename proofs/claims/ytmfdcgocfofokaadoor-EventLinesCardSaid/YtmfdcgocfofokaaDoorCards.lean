/-
  DERIVED. GIVEN WITH THE SEED: THE CARDS: each row of YtmfdcgocfofokaaDoorRows.lean that lists a variable, with what it lists TIED to the program's text (the seventh form; the later family's looks); each row that meets fmt, with fmt's text TOLD by the authors' own Lean function (tested against real Go, not proved from fmt's source: count such statements apart). THE CARD IS WHAT COUNTS. Prove the row's statement (the work); the ties are given (YtmfdcgocfofokaaDoorTie.lean); close each card by the builder's one call (the guide's Derived/Test/ToyasCard.lean, 'card_holds'). Laid BY PROGRAM, IN A SANDBOX (cutbox-door.mjs). By AI agents, Wed Nov 11 2026. No macro, syntax, notation, axiom, sorry.
-/
import Derived.Test.YtmfdcgocfofokaaDoorRows
import GoSem.ClaimSeven
namespace Go.Proofs.YtmfdcgocfofokaaDoor
namespace Rows

/-- THE TIED CARD OF 'pinfoldlaw11.EventLines'. -/
def eventLinesCard : Claim7 := { stood := { row := eventLinesRow, standIns := [], harness := (true, "2ba8c2f8ebed164db9d80afa5c3393d449918a160f448e5c0c95c3a8cac598b3"), looks := false }, kinds := [], alts := [], laidByText := true, laidKinds := [.data, .pinned], laidTests := true, laidLooks := .later }
def EventLinesCardSaid : Prop := Claim7.holds Tryd.pinned (.plain (OpenSpec.ofChange eventLinesSpec)) eventLinesCard

/-- THE TIED CARD OF 'pinfoldlaw11.EventAsks'. -/
def eventAsksCard : Claim7 := { stood := { row := eventAsksRow, standIns := [], harness := (true, "2ba8c2f8ebed164db9d80afa5c3393d449918a160f448e5c0c95c3a8cac598b3"), looks := false }, kinds := [], alts := [], laidByText := true, laidKinds := [.data, .pinned], laidTests := true, laidLooks := .later }
def EventAsksCardSaid : Prop := Claim7.holds Tryd.pinned (.plain (OpenSpec.ofChange eventAsksSpec)) eventAsksCard

/-- THE TIED CARD OF 'pinfoldlaw11.EventRows'. -/
def eventRowsCard : Claim7 := { stood := { row := eventRowsRow, standIns := [], harness := (true, "2ba8c2f8ebed164db9d80afa5c3393d449918a160f448e5c0c95c3a8cac598b3"), looks := false }, kinds := [], alts := [], laidByText := true, laidKinds := [.data, .pinned], laidTests := true, laidLooks := .later }
def EventRowsCardSaid : Prop := Claim7.holds Tryd.pinned (.plain (OpenSpec.ofChange eventRowsSpec)) eventRowsCard

/-- THE TIED CARD OF 'pinfoldlaw11.EventBack'. -/
def eventBackCard : Claim7 := { stood := { row := eventBackRow, standIns := [], harness := (true, "2ba8c2f8ebed164db9d80afa5c3393d449918a160f448e5c0c95c3a8cac598b3"), looks := false }, kinds := [], alts := [], laidByText := true, laidKinds := [.data, .pinned], laidTests := true, laidLooks := .later }
def EventBackCardSaid : Prop := Claim7.holds Tryd.pinned (.plain (OpenSpec.ofChange eventBackSpec)) eventBackCard

/-- THE SECOND FORM's CARD OF 'pinfoldlaw11.EventLines'. -/
def eventLinesUptoCard : Claim7 := { stood := { row := eventLinesUptoRow, standIns := [], harness := (true, "2ba8c2f8ebed164db9d80afa5c3393d449918a160f448e5c0c95c3a8cac598b3"), looks := false }, kinds := [], alts := [], laidByText := true, laidKinds := [.data, .pinned], laidTests := true, laidLooks := .later }
def EventLinesUptoCardSaid : Prop := Claim7.holds Tryd.pinned (.plain (OpenSpec.upto eventLinesSpec)) eventLinesUptoCard

/-- THE SECOND FORM's CARD OF 'pinfoldlaw11.EventAsks'. -/
def eventAsksUptoCard : Claim7 := { stood := { row := eventAsksUptoRow, standIns := [], harness := (true, "2ba8c2f8ebed164db9d80afa5c3393d449918a160f448e5c0c95c3a8cac598b3"), looks := false }, kinds := [], alts := [], laidByText := true, laidKinds := [.data, .pinned], laidTests := true, laidLooks := .later }
def EventAsksUptoCardSaid : Prop := Claim7.holds Tryd.pinned (.plain (OpenSpec.upto eventAsksSpec)) eventAsksUptoCard

/-- THE SECOND FORM's CARD OF 'pinfoldlaw11.EventRows'. -/
def eventRowsUptoCard : Claim7 := { stood := { row := eventRowsUptoRow, standIns := [], harness := (true, "2ba8c2f8ebed164db9d80afa5c3393d449918a160f448e5c0c95c3a8cac598b3"), looks := false }, kinds := [], alts := [], laidByText := true, laidKinds := [.data, .pinned], laidTests := true, laidLooks := .later }
def EventRowsUptoCardSaid : Prop := Claim7.holds Tryd.pinned (.plain (OpenSpec.upto eventRowsSpec)) eventRowsUptoCard

/-- THE SECOND FORM's CARD OF 'pinfoldlaw11.EventBack'. -/
def eventBackUptoCard : Claim7 := { stood := { row := eventBackUptoRow, standIns := [], harness := (true, "2ba8c2f8ebed164db9d80afa5c3393d449918a160f448e5c0c95c3a8cac598b3"), looks := false }, kinds := [], alts := [], laidByText := true, laidKinds := [.data, .pinned], laidTests := true, laidLooks := .later }
def EventBackUptoCardSaid : Prop := Claim7.holds Tryd.pinned (.plain (OpenSpec.upto eventBackSpec)) eventBackUptoCard
end Rows
end Go.Proofs.YtmfdcgocfofokaaDoor
