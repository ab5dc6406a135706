/-
  DERIVED. GIVEN WITH THE SEED: THE CARDS: each row of YthgamlklpfkkhaaDoorRows.lean that lists a variable, with what it lists TIED to the program's text (the seventh form; the later family's looks); each row that meets fmt, with fmt's text TOLD by the authors' own Lean function (tested against real Go, not proved from fmt's source: count such statements apart). THE CARD IS WHAT COUNTS. Prove the row's statement (the work); the ties are given (YthgamlklpfkkhaaDoorTie.lean); close each card by the builder's one call (the guide's Derived/Test/ToyasCard.lean, 'card_holds'). Laid BY PROGRAM, IN A SANDBOX (cutbox-door.mjs). By AI agents, Wed Nov 11 2026. No macro, syntax, notation, axiom, sorry.
-/
import Derived.Test.YthgamlklpfkkhaaDoorRows
import GoSem.ClaimSeven
namespace Go.Proofs.YthgamlklpfkkhaaDoor
namespace Rows

/-- THE TIED CARD OF 'pinfoldlaw01.CpusetParses'. -/
def cpusetParsesCard : Claim7 := { stood := { row := cpusetParsesRow, standIns := [], harness := (true, "3a540a2c825e22f772bd9a44dfa034c9b0a768f6642547fdf5a9fd1c50f6300f"), looks := false }, kinds := [], alts := [], laidByText := true, laidKinds := [.data], laidTests := true, laidLooks := .later }
def CpusetParsesCardSaid : Prop := Claim7.holds Tryd.pinned (.plain (OpenSpec.ofChange cpusetParsesSpec)) cpusetParsesCard

/-- THE TIED CARD OF 'pinfoldlaw01.CpusetPrints'. -/
def cpusetPrintsCard : Claim7 := { stood := { row := cpusetPrintsRow, standIns := [], harness := (true, "3a540a2c825e22f772bd9a44dfa034c9b0a768f6642547fdf5a9fd1c50f6300f"), looks := false }, kinds := [], alts := [], laidByText := true, laidKinds := [.data], laidTests := true, laidLooks := .later }
def CpusetPrintsCardSaid : Prop := Claim7.holds Tryd.pinned (.plain (OpenSpec.ofChange cpusetPrintsSpec)) cpusetPrintsCard

/-- THE TIED CARD OF 'pinfoldlaw01.CpusetAlgebra'. -/
def cpusetAlgebraCard : Claim7 := { stood := { row := cpusetAlgebraRow, standIns := [], harness := (true, "3a540a2c825e22f772bd9a44dfa034c9b0a768f6642547fdf5a9fd1c50f6300f"), looks := false }, kinds := [], alts := [], laidByText := true, laidKinds := [.data], laidTests := true, laidLooks := .later }
def CpusetAlgebraCardSaid : Prop := Claim7.holds Tryd.pinned (.plain (OpenSpec.ofChange cpusetAlgebraSpec)) cpusetAlgebraCard

/-- THE TIED CARD OF 'pinfoldlaw01.CpusetMakes'. -/
def cpusetMakesCard : Claim7 := { stood := { row := cpusetMakesRow, standIns := [], harness := (true, "3a540a2c825e22f772bd9a44dfa034c9b0a768f6642547fdf5a9fd1c50f6300f"), looks := false }, kinds := [], alts := [], laidByText := true, laidKinds := [.data], laidTests := true, laidLooks := .later }
def CpusetMakesCardSaid : Prop := Claim7.holds Tryd.pinned (.plain (OpenSpec.ofChange cpusetMakesSpec)) cpusetMakesCard

/-- THE TIED CARD OF 'pinfoldlaw01.CpusetRanges'. -/
def cpusetRangesCard : Claim7 := { stood := { row := cpusetRangesRow, standIns := [], harness := (true, "3a540a2c825e22f772bd9a44dfa034c9b0a768f6642547fdf5a9fd1c50f6300f"), looks := false }, kinds := [], alts := [], laidByText := true, laidKinds := [.data], laidTests := true, laidLooks := .later }
def CpusetRangesCardSaid : Prop := Claim7.holds Tryd.pinned (.plain (OpenSpec.ofChange cpusetRangesSpec)) cpusetRangesCard

/-- THE TIED CARD OF 'pinfoldlaw01.CpusetNext'. -/
def cpusetNextCard : Claim7 := { stood := { row := cpusetNextRow, standIns := [], harness := (true, "3a540a2c825e22f772bd9a44dfa034c9b0a768f6642547fdf5a9fd1c50f6300f"), looks := false }, kinds := [], alts := [], laidByText := true, laidKinds := [.data], laidTests := true, laidLooks := .later }
def CpusetNextCardSaid : Prop := Claim7.holds Tryd.pinned (.plain (OpenSpec.ofChange cpusetNextSpec)) cpusetNextCard

/-- THE TIED CARD OF 'pinfoldlaw01.CpusetLaws'. -/
def cpusetLawsCard : Claim7 := { stood := { row := cpusetLawsRow, standIns := [], harness := (true, "3a540a2c825e22f772bd9a44dfa034c9b0a768f6642547fdf5a9fd1c50f6300f"), looks := false }, kinds := [], alts := [], laidByText := true, laidKinds := [.data], laidTests := true, laidLooks := .later }
def CpusetLawsCardSaid : Prop := Claim7.holds Tryd.pinned (.plain (OpenSpec.ofChange cpusetLawsSpec)) cpusetLawsCard

/-- THE SECOND FORM's CARD OF 'pinfoldlaw01.CpusetParses'. -/
def cpusetParsesUptoCard : Claim7 := { stood := { row := cpusetParsesUptoRow, standIns := [], harness := (true, "3a540a2c825e22f772bd9a44dfa034c9b0a768f6642547fdf5a9fd1c50f6300f"), looks := false }, kinds := [], alts := [], laidByText := true, laidKinds := [.data], laidTests := true, laidLooks := .later }
def CpusetParsesUptoCardSaid : Prop := Claim7.holds Tryd.pinned (.plain (OpenSpec.upto cpusetParsesSpec)) cpusetParsesUptoCard

/-- THE SECOND FORM's CARD OF 'pinfoldlaw01.CpusetPrints'. -/
def cpusetPrintsUptoCard : Claim7 := { stood := { row := cpusetPrintsUptoRow, standIns := [], harness := (true, "3a540a2c825e22f772bd9a44dfa034c9b0a768f6642547fdf5a9fd1c50f6300f"), looks := false }, kinds := [], alts := [], laidByText := true, laidKinds := [.data], laidTests := true, laidLooks := .later }
def CpusetPrintsUptoCardSaid : Prop := Claim7.holds Tryd.pinned (.plain (OpenSpec.upto cpusetPrintsSpec)) cpusetPrintsUptoCard

/-- THE SECOND FORM's CARD OF 'pinfoldlaw01.CpusetAlgebra'. -/
def cpusetAlgebraUptoCard : Claim7 := { stood := { row := cpusetAlgebraUptoRow, standIns := [], harness := (true, "3a540a2c825e22f772bd9a44dfa034c9b0a768f6642547fdf5a9fd1c50f6300f"), looks := false }, kinds := [], alts := [], laidByText := true, laidKinds := [.data], laidTests := true, laidLooks := .later }
def CpusetAlgebraUptoCardSaid : Prop := Claim7.holds Tryd.pinned (.plain (OpenSpec.upto cpusetAlgebraSpec)) cpusetAlgebraUptoCard

/-- THE SECOND FORM's CARD OF 'pinfoldlaw01.CpusetMakes'. -/
def cpusetMakesUptoCard : Claim7 := { stood := { row := cpusetMakesUptoRow, standIns := [], harness := (true, "3a540a2c825e22f772bd9a44dfa034c9b0a768f6642547fdf5a9fd1c50f6300f"), looks := false }, kinds := [], alts := [], laidByText := true, laidKinds := [.data], laidTests := true, laidLooks := .later }
def CpusetMakesUptoCardSaid : Prop := Claim7.holds Tryd.pinned (.plain (OpenSpec.upto cpusetMakesSpec)) cpusetMakesUptoCard

/-- THE SECOND FORM's CARD OF 'pinfoldlaw01.CpusetRanges'. -/
def cpusetRangesUptoCard : Claim7 := { stood := { row := cpusetRangesUptoRow, standIns := [], harness := (true, "3a540a2c825e22f772bd9a44dfa034c9b0a768f6642547fdf5a9fd1c50f6300f"), looks := false }, kinds := [], alts := [], laidByText := true, laidKinds := [.data], laidTests := true, laidLooks := .later }
def CpusetRangesUptoCardSaid : Prop := Claim7.holds Tryd.pinned (.plain (OpenSpec.upto cpusetRangesSpec)) cpusetRangesUptoCard

/-- THE SECOND FORM's CARD OF 'pinfoldlaw01.CpusetNext'. -/
def cpusetNextUptoCard : Claim7 := { stood := { row := cpusetNextUptoRow, standIns := [], harness := (true, "3a540a2c825e22f772bd9a44dfa034c9b0a768f6642547fdf5a9fd1c50f6300f"), looks := false }, kinds := [], alts := [], laidByText := true, laidKinds := [.data], laidTests := true, laidLooks := .later }
def CpusetNextUptoCardSaid : Prop := Claim7.holds Tryd.pinned (.plain (OpenSpec.upto cpusetNextSpec)) cpusetNextUptoCard

/-- THE SECOND FORM's CARD OF 'pinfoldlaw01.CpusetLaws'. -/
def cpusetLawsUptoCard : Claim7 := { stood := { row := cpusetLawsUptoRow, standIns := [], harness := (true, "3a540a2c825e22f772bd9a44dfa034c9b0a768f6642547fdf5a9fd1c50f6300f"), looks := false }, kinds := [], alts := [], laidByText := true, laidKinds := [.data], laidTests := true, laidLooks := .later }
def CpusetLawsUptoCardSaid : Prop := Claim7.holds Tryd.pinned (.plain (OpenSpec.upto cpusetLawsSpec)) cpusetLawsUptoCard
end Rows
end Go.Proofs.YthgamlklpfkkhaaDoor
