/-
  DERIVED. GIVEN WITH THE SEED: THE CARDS: each row of YtckmihjekgbcmaaDoorRows.lean that lists a variable, with what it lists TIED to the program's text (the seventh form; the later family's looks); each row that meets fmt, with fmt's text TOLD by the authors' own Lean function (tested against real Go, not proved from fmt's source: count such statements apart). THE CARD IS WHAT COUNTS. Prove the row's statement (the work); the ties are given (YtckmihjekgbcmaaDoorTie.lean); close each card by the builder's one call (the guide's Derived/Test/ToyasCard.lean, 'card_holds'). Laid BY PROGRAM, IN A SANDBOX (cutbox-door.mjs). By AI agents, Wed Nov 11 2026. No macro, syntax, notation, axiom, sorry.
-/
import Derived.Test.YtckmihjekgbcmaaDoorRows
import GoSem.ClaimSeven
namespace Go.Proofs.YtckmihjekgbcmaaDoor
namespace Rows

/-- THE TIED CARD OF 'pinfoldlaw31.CodecInts'. -/
def codecIntsCard : Claim7 := { stood := { row := codecIntsRow, standIns := [], harness := (true, "1e4fcd0f4c4ce237b686402f4d6f7a645ecb819f251de9f69a47201426e9c13c"), looks := false }, kinds := [], alts := [], laidByText := true, laidKinds := [.data], laidTests := true, laidLooks := .later }
def CodecIntsCardSaid : Prop := Claim7.holds Tryd.pinned (.plain (OpenSpec.ofChange codecIntsSpec)) codecIntsCard

/-- THE TIED CARD OF 'pinfoldlaw31.CodecSets'. -/
def codecSetsCard : Claim7 := { stood := { row := codecSetsRow, standIns := [], harness := (true, "1e4fcd0f4c4ce237b686402f4d6f7a645ecb819f251de9f69a47201426e9c13c"), looks := false }, kinds := [], alts := [], laidByText := true, laidKinds := [.data], laidTests := true, laidLooks := .later }
def CodecSetsCardSaid : Prop := Claim7.holds Tryd.pinned (.plain (OpenSpec.ofChange codecSetsSpec)) codecSetsCard

/-- THE TIED CARD OF 'pinfoldlaw31.CodecRows'. -/
def codecRowsCard : Claim7 := { stood := { row := codecRowsRow, standIns := [], harness := (true, "1e4fcd0f4c4ce237b686402f4d6f7a645ecb819f251de9f69a47201426e9c13c"), looks := false }, kinds := [], alts := [], laidByText := true, laidKinds := [.data], laidTests := true, laidLooks := .later }
def CodecRowsCardSaid : Prop := Claim7.holds Tryd.pinned (.plain (OpenSpec.ofChange codecRowsSpec)) codecRowsCard

/-- THE TIED CARD OF 'pinfoldlaw31.CodecBack'. -/
def codecBackCard : Claim7 := { stood := { row := codecBackRow, standIns := [], harness := (true, "1e4fcd0f4c4ce237b686402f4d6f7a645ecb819f251de9f69a47201426e9c13c"), looks := false }, kinds := [], alts := [], laidByText := true, laidKinds := [.data], laidTests := true, laidLooks := .later }
def CodecBackCardSaid : Prop := Claim7.holds Tryd.pinned (.plain (OpenSpec.ofChange codecBackSpec)) codecBackCard

/-- THE SECOND FORM's CARD OF 'pinfoldlaw31.CodecInts'. -/
def codecIntsUptoCard : Claim7 := { stood := { row := codecIntsUptoRow, standIns := [], harness := (true, "1e4fcd0f4c4ce237b686402f4d6f7a645ecb819f251de9f69a47201426e9c13c"), looks := false }, kinds := [], alts := [], laidByText := true, laidKinds := [.data], laidTests := true, laidLooks := .later }
def CodecIntsUptoCardSaid : Prop := Claim7.holds Tryd.pinned (.plain (OpenSpec.upto codecIntsSpec)) codecIntsUptoCard

/-- THE SECOND FORM's CARD OF 'pinfoldlaw31.CodecSets'. -/
def codecSetsUptoCard : Claim7 := { stood := { row := codecSetsUptoRow, standIns := [], harness := (true, "1e4fcd0f4c4ce237b686402f4d6f7a645ecb819f251de9f69a47201426e9c13c"), looks := false }, kinds := [], alts := [], laidByText := true, laidKinds := [.data], laidTests := true, laidLooks := .later }
def CodecSetsUptoCardSaid : Prop := Claim7.holds Tryd.pinned (.plain (OpenSpec.upto codecSetsSpec)) codecSetsUptoCard

/-- THE SECOND FORM's CARD OF 'pinfoldlaw31.CodecRows'. -/
def codecRowsUptoCard : Claim7 := { stood := { row := codecRowsUptoRow, standIns := [], harness := (true, "1e4fcd0f4c4ce237b686402f4d6f7a645ecb819f251de9f69a47201426e9c13c"), looks := false }, kinds := [], alts := [], laidByText := true, laidKinds := [.data], laidTests := true, laidLooks := .later }
def CodecRowsUptoCardSaid : Prop := Claim7.holds Tryd.pinned (.plain (OpenSpec.upto codecRowsSpec)) codecRowsUptoCard

/-- THE SECOND FORM's CARD OF 'pinfoldlaw31.CodecBack'. -/
def codecBackUptoCard : Claim7 := { stood := { row := codecBackUptoRow, standIns := [], harness := (true, "1e4fcd0f4c4ce237b686402f4d6f7a645ecb819f251de9f69a47201426e9c13c"), looks := false }, kinds := [], alts := [], laidByText := true, laidKinds := [.data], laidTests := true, laidLooks := .later }
def CodecBackUptoCardSaid : Prop := Claim7.holds Tryd.pinned (.plain (OpenSpec.upto codecBackSpec)) codecBackUptoCard
end Rows
end Go.Proofs.YtckmihjekgbcmaaDoor
