/-
  NARROWER THAN 'FOR EVERY INPUT', by the rows' own cells (each row's printed sentence says how): CpusetParses: laid · CpusetPrints: laid · CpusetAlgebra: laid · CpusetMakes: laid · CpusetRanges: laid · CpusetNext: laid · CpusetLaws: laid.
  DERIVED. THE GIVEN ROWS OF THIS SEAT. 7 by the template 'for every input the law returns true; each argument reads behind the call as it read before'; 0 by the template 'total and deterministic' (their statements: YthgamlklpfkkhaaDoorTotals.lean).
  GIVEN WITH THE SEED: the statements are not yours to turn. If you find one false, say at which input.
  Laid BY PROGRAM, IN A SANDBOX (cutbox-rows.mjs): the forced cells as the released guide's own fill.sh prints them over the translation 82c3c56148192b8f… (all of the seat's roots in one cut). By AI agents, Wed Nov 11 2026. No macro, syntax, notation, axiom, sorry.
-/
import Derived.Test.YthgamlklpfkkhaaDoorChecked
import GoSem.Claim
import GoSem.ClaimJoined
import GoSem.ClaimMapViews
import Derived.JoinedTies
import Derived.KernelRfl
namespace Go.Proofs.YthgamlklpfkkhaaDoor
/- THE CELL 'sum', in the pinned program and in every row, IS THE sha256 OF THE DUMP (.gsa) THAT YthgamlklpfkkhaaDoorProg.lean LOADS. Nothing in Lean hashes anything: it is a label: what it is worth is what the hold of that sum in a sandbox is worth. -/
noncomputable def Tryd.pinned : Pinned := { name := "ythgamlklpfkkhaadoor", sum := "82c3c56148192b8f3242375095d94a106c28a3e3b0a85e85307c7ea8a5421a77", checked := Tryd.checked }
namespace Rows
def none {H : Type} : Left H := { results := [], args := [] }

/- WHAT THE LISTED PACKAGE-LEVEL VARIABLES READ AS WHEN THE CALL BEGINS. Each datum BY PROGRAM (the guide's laid-datum.mjs) off the statement by which the dump's own 'gosem.cut.vars' lays the variable. In a bare row this is a premise. The card (YthgamlklpfkkhaaDoorCards.lean) ties it to the program's text. -/
def laid_math_bits_deBruijn64tab {H : Type} : DataW H := .agg [.lit (.int .u8 0), .lit (.int .u8 1), .lit (.int .u8 56), .lit (.int .u8 2), .lit (.int .u8 57), .lit (.int .u8 49), .lit (.int .u8 28), .lit (.int .u8 3), .lit (.int .u8 61), .lit (.int .u8 58), .lit (.int .u8 42), .lit (.int .u8 50), .lit (.int .u8 38), .lit (.int .u8 29), .lit (.int .u8 17), .lit (.int .u8 4), .lit (.int .u8 62), .lit (.int .u8 47), .lit (.int .u8 59), .lit (.int .u8 36), .lit (.int .u8 45), .lit (.int .u8 43), .lit (.int .u8 51), .lit (.int .u8 22), .lit (.int .u8 53), .lit (.int .u8 39), .lit (.int .u8 33), .lit (.int .u8 30), .lit (.int .u8 24), .lit (.int .u8 18), .lit (.int .u8 12), .lit (.int .u8 5), .lit (.int .u8 63), .lit (.int .u8 55), .lit (.int .u8 48), .lit (.int .u8 27), .lit (.int .u8 60), .lit (.int .u8 41), .lit (.int .u8 37), .lit (.int .u8 16), .lit (.int .u8 46), .lit (.int .u8 35), .lit (.int .u8 44), .lit (.int .u8 21), .lit (.int .u8 52), .lit (.int .u8 32), .lit (.int .u8 23), .lit (.int .u8 11), .lit (.int .u8 54), .lit (.int .u8 26), .lit (.int .u8 40), .lit (.int .u8 15), .lit (.int .u8 34), .lit (.int .u8 20), .lit (.int .u8 31), .lit (.int .u8 10), .lit (.int .u8 25), .lit (.int .u8 14), .lit (.int .u8 19), .lit (.int .u8 9), .lit (.int .u8 13), .lit (.int .u8 8), .lit (.int .u8 7), .lit (.int .u8 6)]

/-- 'pinfoldlaw01.CpusetParses': WHATEVER THE INPUT: true; the input reads as it did. -/
def cpusetParsesSpec : ChangeSpec := { name := "cpusetParses", fn := fun _ => fun
  | [d] => { results := [.lit (.bool true)], args := [d] }
  | _ => none }
def cpusetParsesRow : OpenClaim := { program := "ythgamlklpfkkhaadoor", sum := "82c3c56148192b8f3242375095d94a106c28a3e3b0a85e85307c7ea8a5421a77", func := "pinfold/pinfoldlaw01.CpusetParses", spec := "cpusetParses", inPlace := ["internal/abi.NoEscape", "internal/bytealg.MakeNoZero"], named := ["math/bits.deBruijn64tab"], apart := false, laid := [("math/bits.deBruijn64tab", laid_math_bits_deBruijn64tab)] }
def CpusetParsesSaid : Prop := cpusetParsesRow.holds Tryd.pinned (OpenSpec.ofChange cpusetParsesSpec)

/-- ITS FALSE NEIGHBOUR: 'it returns false'. Refute it at one input. -/
def cpusetParsesWrong : ChangeSpec := { name := "cpusetParses", fn := fun _ => fun
  | [d] => { results := [.lit (.bool false)], args := [d] }
  | _ => none }
def CpusetParsesWrongFalsely : Prop := cpusetParsesRow.holds Tryd.pinned (OpenSpec.ofChange cpusetParsesWrong)

/-- 'pinfoldlaw01.CpusetPrints': WHATEVER THE INPUT: true; the input reads as it did. -/
def cpusetPrintsSpec : ChangeSpec := { name := "cpusetPrints", fn := fun _ => fun
  | [d1, d2, d3] => { results := [.lit (.bool true)], args := [d1, d2, d3] }
  | _ => none }
def cpusetPrintsRow : OpenClaim := { program := "ythgamlklpfkkhaadoor", sum := "82c3c56148192b8f3242375095d94a106c28a3e3b0a85e85307c7ea8a5421a77", func := "pinfold/pinfoldlaw01.CpusetPrints", spec := "cpusetPrints", inPlace := ["internal/abi.NoEscape", "internal/bytealg.MakeNoZero"], recurses := true, named := ["math/bits.deBruijn64tab"], apart := false, laid := [("math/bits.deBruijn64tab", laid_math_bits_deBruijn64tab)] }
def CpusetPrintsSaid : Prop := cpusetPrintsRow.holds Tryd.pinned (OpenSpec.ofChange cpusetPrintsSpec)

/-- ITS FALSE NEIGHBOUR: 'it returns false'. Refute it at one input. -/
def cpusetPrintsWrong : ChangeSpec := { name := "cpusetPrints", fn := fun _ => fun
  | [d1, d2, d3] => { results := [.lit (.bool false)], args := [d1, d2, d3] }
  | _ => none }
def CpusetPrintsWrongFalsely : Prop := cpusetPrintsRow.holds Tryd.pinned (OpenSpec.ofChange cpusetPrintsWrong)

/-- 'pinfoldlaw01.CpusetAlgebra': WHATEVER THE INPUT: true; the input reads as it did. -/
def cpusetAlgebraSpec : ChangeSpec := { name := "cpusetAlgebra", fn := fun _ => fun
  | [d1, d2] => { results := [.lit (.bool true)], args := [d1, d2] }
  | _ => none }
def cpusetAlgebraRow : OpenClaim := { program := "ythgamlklpfkkhaadoor", sum := "82c3c56148192b8f3242375095d94a106c28a3e3b0a85e85307c7ea8a5421a77", func := "pinfold/pinfoldlaw01.CpusetAlgebra", spec := "cpusetAlgebra", inPlace := ["internal/abi.NoEscape", "internal/bytealg.MakeNoZero"], named := ["math/bits.deBruijn64tab"], apart := false, laid := [("math/bits.deBruijn64tab", laid_math_bits_deBruijn64tab)] }
def CpusetAlgebraSaid : Prop := cpusetAlgebraRow.holds Tryd.pinned (OpenSpec.ofChange cpusetAlgebraSpec)

/-- ITS FALSE NEIGHBOUR: 'it returns false'. Refute it at one input. -/
def cpusetAlgebraWrong : ChangeSpec := { name := "cpusetAlgebra", fn := fun _ => fun
  | [d1, d2] => { results := [.lit (.bool false)], args := [d1, d2] }
  | _ => none }
def CpusetAlgebraWrongFalsely : Prop := cpusetAlgebraRow.holds Tryd.pinned (OpenSpec.ofChange cpusetAlgebraWrong)

/-- 'pinfoldlaw01.CpusetMakes': WHATEVER THE INPUT: true; the input reads as it did. -/
def cpusetMakesSpec : ChangeSpec := { name := "cpusetMakes", fn := fun _ => fun
  | [d1, d2] => { results := [.lit (.bool true)], args := [d1, d2] }
  | _ => none }
def cpusetMakesRow : OpenClaim := { program := "ythgamlklpfkkhaadoor", sum := "82c3c56148192b8f3242375095d94a106c28a3e3b0a85e85307c7ea8a5421a77", func := "pinfold/pinfoldlaw01.CpusetMakes", spec := "cpusetMakes", inPlace := ["internal/abi.NoEscape", "internal/bytealg.MakeNoZero"], named := ["math/bits.deBruijn64tab"], apart := false, laid := [("math/bits.deBruijn64tab", laid_math_bits_deBruijn64tab)] }
def CpusetMakesSaid : Prop := cpusetMakesRow.holds Tryd.pinned (OpenSpec.ofChange cpusetMakesSpec)

/-- ITS FALSE NEIGHBOUR: 'it returns false'. Refute it at one input. -/
def cpusetMakesWrong : ChangeSpec := { name := "cpusetMakes", fn := fun _ => fun
  | [d1, d2] => { results := [.lit (.bool false)], args := [d1, d2] }
  | _ => none }
def CpusetMakesWrongFalsely : Prop := cpusetMakesRow.holds Tryd.pinned (OpenSpec.ofChange cpusetMakesWrong)

/-- 'pinfoldlaw01.CpusetRanges': WHATEVER THE INPUT: true; the input reads as it did. -/
def cpusetRangesSpec : ChangeSpec := { name := "cpusetRanges", fn := fun _ => fun
  | [d1, d2] => { results := [.lit (.bool true)], args := [d1, d2] }
  | _ => none }
def cpusetRangesRow : OpenClaim := { program := "ythgamlklpfkkhaadoor", sum := "82c3c56148192b8f3242375095d94a106c28a3e3b0a85e85307c7ea8a5421a77", func := "pinfold/pinfoldlaw01.CpusetRanges", spec := "cpusetRanges", inPlace := ["internal/abi.NoEscape", "internal/bytealg.MakeNoZero"], named := ["math/bits.deBruijn64tab"], apart := false, laid := [("math/bits.deBruijn64tab", laid_math_bits_deBruijn64tab)] }
def CpusetRangesSaid : Prop := cpusetRangesRow.holds Tryd.pinned (OpenSpec.ofChange cpusetRangesSpec)

/-- ITS FALSE NEIGHBOUR: 'it returns false'. Refute it at one input. -/
def cpusetRangesWrong : ChangeSpec := { name := "cpusetRanges", fn := fun _ => fun
  | [d1, d2] => { results := [.lit (.bool false)], args := [d1, d2] }
  | _ => none }
def CpusetRangesWrongFalsely : Prop := cpusetRangesRow.holds Tryd.pinned (OpenSpec.ofChange cpusetRangesWrong)

/-- 'pinfoldlaw01.CpusetNext': WHATEVER THE INPUT: true; the input reads as it did. -/
def cpusetNextSpec : ChangeSpec := { name := "cpusetNext", fn := fun _ => fun
  | [d1, d2] => { results := [.lit (.bool true)], args := [d1, d2] }
  | _ => none }
def cpusetNextRow : OpenClaim := { program := "ythgamlklpfkkhaadoor", sum := "82c3c56148192b8f3242375095d94a106c28a3e3b0a85e85307c7ea8a5421a77", func := "pinfold/pinfoldlaw01.CpusetNext", spec := "cpusetNext", inPlace := ["internal/abi.NoEscape", "internal/bytealg.MakeNoZero"], named := ["math/bits.deBruijn64tab"], apart := false, laid := [("math/bits.deBruijn64tab", laid_math_bits_deBruijn64tab)] }
def CpusetNextSaid : Prop := cpusetNextRow.holds Tryd.pinned (OpenSpec.ofChange cpusetNextSpec)

/-- ITS FALSE NEIGHBOUR: 'it returns false'. Refute it at one input. -/
def cpusetNextWrong : ChangeSpec := { name := "cpusetNext", fn := fun _ => fun
  | [d1, d2] => { results := [.lit (.bool false)], args := [d1, d2] }
  | _ => none }
def CpusetNextWrongFalsely : Prop := cpusetNextRow.holds Tryd.pinned (OpenSpec.ofChange cpusetNextWrong)

/-- 'pinfoldlaw01.CpusetLaws': WHATEVER THE INPUT: true; the input reads as it did. -/
def cpusetLawsSpec : ChangeSpec := { name := "cpusetLaws", fn := fun _ => fun
  | [d1, d2, d3] => { results := [.lit (.bool true)], args := [d1, d2, d3] }
  | _ => none }
def cpusetLawsRow : OpenClaim := { program := "ythgamlklpfkkhaadoor", sum := "82c3c56148192b8f3242375095d94a106c28a3e3b0a85e85307c7ea8a5421a77", func := "pinfold/pinfoldlaw01.CpusetLaws", spec := "cpusetLaws", inPlace := ["internal/abi.NoEscape", "internal/bytealg.MakeNoZero"], named := ["math/bits.deBruijn64tab"], apart := false, laid := [("math/bits.deBruijn64tab", laid_math_bits_deBruijn64tab)] }
def CpusetLawsSaid : Prop := cpusetLawsRow.holds Tryd.pinned (OpenSpec.ofChange cpusetLawsSpec)

/-- ITS FALSE NEIGHBOUR: 'it returns false'. Refute it at one input. -/
def cpusetLawsWrong : ChangeSpec := { name := "cpusetLaws", fn := fun _ => fun
  | [d1, d2, d3] => { results := [.lit (.bool false)], args := [d1, d2, d3] }
  | _ => none }
def CpusetLawsWrongFalsely : Prop := cpusetLawsRow.holds Tryd.pinned (OpenSpec.ofChange cpusetLawsWrong)

/- THE SECOND FORM. 'bulk': how many values and letters a reading holds, each counted each time it is reached (what is shared counts as often as it is met; a slice's spare places count too). A statement '..UptoSaid' is the law's where the arguments, and the package variables that the reading takes, are together of bulk at most 1048576: NARROWER than '..Said'. Prove '..Said' where nothing that the law and all that it calls make is longer than what came in: it says more and counts as full. Else prove '..UptoSaid'. A law counts once. -/
mutual
def uptoBulk {H : Type} : DataW H → Nat
  | .lit (.string bytes) => bytes.length + 1
  | .lit _ => 1
  | .nil => 1
  | .ptr d => uptoBulk d + 1
  | .slice elems spare => uptoBulkAll elems + uptoBulkAll spare + 1
  | .agg parts => uptoBulkAll parts + 1
  | .iface _ d => uptoBulk d + 1
  | .map entries => uptoBulkEntries entries + 1
  | .held _ => 1
def uptoBulkAll {H : Type} : List (DataW H) → Nat
  | [] => 0
  | d :: r => uptoBulk d + uptoBulkAll r
def uptoBulkEntries {H : Type} : List (Lit × DataW H) → Nat
  | [] => 0
  | x :: r => uptoBulkEntry x + uptoBulkEntries r
def uptoBulkEntry {H : Type} : Lit × DataW H → Nat
  | (.string bytes, d) => bytes.length + uptoBulk d + 1
  | (_, d) => uptoBulk d + 1
 end
def uptoSmall : (H : Type) → List (DataW H) → Bool := fun _ ds => decide (uptoBulkAll ds ≤ 1048576)
def OpenSpec.upto (s : _root_.Go.ChangeSpec) : _root_.Go.OpenSpec := { _root_.Go.OpenSpec.ofChange s with cond := some uptoSmall }

/-- 'pinfoldlaw01.CpusetParses', WHERE WHAT IT READS IS OF BULK AT MOST 1048576: true; the input reads as it did. -/
def cpusetParsesUptoRow : OpenClaim := { program := "ythgamlklpfkkhaadoor", sum := "82c3c56148192b8f3242375095d94a106c28a3e3b0a85e85307c7ea8a5421a77", func := "pinfold/pinfoldlaw01.CpusetParses", spec := "cpusetParses", inPlace := ["internal/abi.NoEscape", "internal/bytealg.MakeNoZero"], named := ["math/bits.deBruijn64tab"], apart := false, laid := [("math/bits.deBruijn64tab", laid_math_bits_deBruijn64tab)], narrowed := true }
def CpusetParsesUptoSaid : Prop := cpusetParsesUptoRow.holds Tryd.pinned (OpenSpec.upto cpusetParsesSpec)

/-- 'pinfoldlaw01.CpusetPrints', WHERE WHAT IT READS IS OF BULK AT MOST 1048576: true; the input reads as it did. -/
def cpusetPrintsUptoRow : OpenClaim := { program := "ythgamlklpfkkhaadoor", sum := "82c3c56148192b8f3242375095d94a106c28a3e3b0a85e85307c7ea8a5421a77", func := "pinfold/pinfoldlaw01.CpusetPrints", spec := "cpusetPrints", inPlace := ["internal/abi.NoEscape", "internal/bytealg.MakeNoZero"], recurses := true, named := ["math/bits.deBruijn64tab"], apart := false, laid := [("math/bits.deBruijn64tab", laid_math_bits_deBruijn64tab)], narrowed := true }
def CpusetPrintsUptoSaid : Prop := cpusetPrintsUptoRow.holds Tryd.pinned (OpenSpec.upto cpusetPrintsSpec)

/-- 'pinfoldlaw01.CpusetAlgebra', WHERE WHAT IT READS IS OF BULK AT MOST 1048576: true; the input reads as it did. -/
def cpusetAlgebraUptoRow : OpenClaim := { program := "ythgamlklpfkkhaadoor", sum := "82c3c56148192b8f3242375095d94a106c28a3e3b0a85e85307c7ea8a5421a77", func := "pinfold/pinfoldlaw01.CpusetAlgebra", spec := "cpusetAlgebra", inPlace := ["internal/abi.NoEscape", "internal/bytealg.MakeNoZero"], named := ["math/bits.deBruijn64tab"], apart := false, laid := [("math/bits.deBruijn64tab", laid_math_bits_deBruijn64tab)], narrowed := true }
def CpusetAlgebraUptoSaid : Prop := cpusetAlgebraUptoRow.holds Tryd.pinned (OpenSpec.upto cpusetAlgebraSpec)

/-- 'pinfoldlaw01.CpusetMakes', WHERE WHAT IT READS IS OF BULK AT MOST 1048576: true; the input reads as it did. -/
def cpusetMakesUptoRow : OpenClaim := { program := "ythgamlklpfkkhaadoor", sum := "82c3c56148192b8f3242375095d94a106c28a3e3b0a85e85307c7ea8a5421a77", func := "pinfold/pinfoldlaw01.CpusetMakes", spec := "cpusetMakes", inPlace := ["internal/abi.NoEscape", "internal/bytealg.MakeNoZero"], named := ["math/bits.deBruijn64tab"], apart := false, laid := [("math/bits.deBruijn64tab", laid_math_bits_deBruijn64tab)], narrowed := true }
def CpusetMakesUptoSaid : Prop := cpusetMakesUptoRow.holds Tryd.pinned (OpenSpec.upto cpusetMakesSpec)

/-- 'pinfoldlaw01.CpusetRanges', WHERE WHAT IT READS IS OF BULK AT MOST 1048576: true; the input reads as it did. -/
def cpusetRangesUptoRow : OpenClaim := { program := "ythgamlklpfkkhaadoor", sum := "82c3c56148192b8f3242375095d94a106c28a3e3b0a85e85307c7ea8a5421a77", func := "pinfold/pinfoldlaw01.CpusetRanges", spec := "cpusetRanges", inPlace := ["internal/abi.NoEscape", "internal/bytealg.MakeNoZero"], named := ["math/bits.deBruijn64tab"], apart := false, laid := [("math/bits.deBruijn64tab", laid_math_bits_deBruijn64tab)], narrowed := true }
def CpusetRangesUptoSaid : Prop := cpusetRangesUptoRow.holds Tryd.pinned (OpenSpec.upto cpusetRangesSpec)

/-- 'pinfoldlaw01.CpusetNext', WHERE WHAT IT READS IS OF BULK AT MOST 1048576: true; the input reads as it did. -/
def cpusetNextUptoRow : OpenClaim := { program := "ythgamlklpfkkhaadoor", sum := "82c3c56148192b8f3242375095d94a106c28a3e3b0a85e85307c7ea8a5421a77", func := "pinfold/pinfoldlaw01.CpusetNext", spec := "cpusetNext", inPlace := ["internal/abi.NoEscape", "internal/bytealg.MakeNoZero"], named := ["math/bits.deBruijn64tab"], apart := false, laid := [("math/bits.deBruijn64tab", laid_math_bits_deBruijn64tab)], narrowed := true }
def CpusetNextUptoSaid : Prop := cpusetNextUptoRow.holds Tryd.pinned (OpenSpec.upto cpusetNextSpec)

/-- 'pinfoldlaw01.CpusetLaws', WHERE WHAT IT READS IS OF BULK AT MOST 1048576: true; the input reads as it did. -/
def cpusetLawsUptoRow : OpenClaim := { program := "ythgamlklpfkkhaadoor", sum := "82c3c56148192b8f3242375095d94a106c28a3e3b0a85e85307c7ea8a5421a77", func := "pinfold/pinfoldlaw01.CpusetLaws", spec := "cpusetLaws", inPlace := ["internal/abi.NoEscape", "internal/bytealg.MakeNoZero"], named := ["math/bits.deBruijn64tab"], apart := false, laid := [("math/bits.deBruijn64tab", laid_math_bits_deBruijn64tab)], narrowed := true }
def CpusetLawsUptoSaid : Prop := cpusetLawsUptoRow.holds Tryd.pinned (OpenSpec.upto cpusetLawsSpec)

end Rows
end Go.Proofs.YthgamlklpfkkhaaDoor
