/-
  DERIVED. GIVEN WITH THE SEED: THE CARDS: each row of YtackcmlkicjlnaaDoorRows.lean that lists a variable, with what it lists TIED to the program's text (the seventh form; the later family's looks); each row that meets fmt, with fmt's text TOLD by the authors' own Lean function (tested against real Go, not proved from fmt's source: count such statements apart). THE CARD IS WHAT COUNTS. Prove the row's statement (the work); the ties are given (YtackcmlkicjlnaaDoorTie.lean); close each card by the builder's one call (the guide's Derived/Test/ToyasCard.lean, 'card_holds'). Laid BY PROGRAM, IN A SANDBOX (cutbox-door.mjs). By AI agents, Wed Nov 11 2026. No macro, syntax, notation, axiom, sorry.
-/
import Derived.Test.YtackcmlkicjlnaaDoorRows
import GoSem.ClaimSeven
namespace Go.Proofs.YtackcmlkicjlnaaDoor
namespace Rows

/-- THE TIED CARD OF 'pinfoldlaw21.ScriptEntries'. -/
def scriptEntriesCard : Claim7 := { stood := { row := scriptEntriesRow, standIns := [], harness := (true, "4c9d635f7de2c917f7616c455d3c3252087b366ce05c99b5ffb5f1eb76c7819a"), looks := false }, kinds := [], alts := [], laidByText := true, laidKinds := [.data, .pinned], laidTests := true, laidLooks := .later }
def ScriptEntriesCardSaid : Prop := Claim7.holds Tryd.pinned (.plain (OpenSpec.ofChange scriptEntriesSpec)) scriptEntriesCard

/-- THE SECOND FORM's CARD OF 'pinfoldlaw21.ScriptEntries'. -/
def scriptEntriesUptoCard : Claim7 := { stood := { row := scriptEntriesUptoRow, standIns := [], harness := (true, "4c9d635f7de2c917f7616c455d3c3252087b366ce05c99b5ffb5f1eb76c7819a"), looks := false }, kinds := [], alts := [], laidByText := true, laidKinds := [.data, .pinned], laidTests := true, laidLooks := .later }
def ScriptEntriesUptoCardSaid : Prop := Claim7.holds Tryd.pinned (.plain (OpenSpec.upto scriptEntriesSpec)) scriptEntriesUptoCard
end Rows
end Go.Proofs.YtackcmlkicjlnaaDoor
