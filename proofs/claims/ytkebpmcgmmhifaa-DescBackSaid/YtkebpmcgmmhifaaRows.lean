/-
  No cell of these rows narrows 'for every input' (looked for: loops, veiled, ifaces, maps, wideKeys, modest, calm, conditions, laid).
  DERIVED. THE GIVEN ROWS OF THIS SEAT. 5 by the template 'for every input the law returns true; each argument reads behind the call as it read before'; 0 by the template 'total and deterministic' (their statements: YtkebpmcgmmhifaaTotals.lean).
  GIVEN WITH THE SEED: the statements are not yours to turn. If you find one false, say at which input.
  Laid BY PROGRAM, IN A SANDBOX (cutbox-rows.mjs): the forced cells as the released guide's own fill.sh prints them over the translation 0a11de40770a98bf… (all of the seat's roots in one cut). By AI agents, Wed Nov 11 2026. No macro, syntax, notation, axiom, sorry.
-/
import Derived.Test.YtkebpmcgmmhifaaChecked
import GoSem.Claim
import GoSem.ClaimJoined
import GoSem.ClaimMapViews
import Derived.JoinedTies
import Derived.KernelRfl
namespace Go.Proofs.Ytkebpmcgmmhifaa
/- THE CELL 'sum', in the pinned program and in every row, IS THE sha256 OF THE DUMP (.gsa) THAT YtkebpmcgmmhifaaProg.lean LOADS. Nothing in Lean hashes anything: it is a label: what it is worth is what the hold of that sum in a sandbox is worth. -/
noncomputable def Try.pinned : Pinned := { name := "ytkebpmcgmmhifaa", sum := "0a11de40770a98bf3cde3a86402f3ee26dfb67eaa4a7b055fd9a71b47436d121", checked := Try.checked }
namespace Rows
def none {H : Type} : Left H := { results := [], args := [] }

/-- 'pinfoldlaw02.DescAll': WHATEVER THE INPUT: true; the input reads as it did. -/
def descAllSpec : ChangeSpec := { name := "descAll", fn := fun _ => fun
  | [d] => { results := [.lit (.bool true)], args := [d] }
  | _ => none }
def descAllRow : OpenClaim := { program := "ytkebpmcgmmhifaa", sum := "0a11de40770a98bf3cde3a86402f3ee26dfb67eaa4a7b055fd9a71b47436d121", func := "pinfold/pinfoldlaw02.DescAll", spec := "descAll", inPlace := ["internal/bytealg.CountString", "internal/bytealg.IndexByteString", "internal/bytealg.IndexString"], unfollowed := true, recurses := true, named := ["internal/bytealg.MaxLen"], apart := false }
def DescAllSaid : Prop := descAllRow.holds Try.pinned (OpenSpec.ofChange descAllSpec)

/-- ITS FALSE NEIGHBOUR: 'it returns false'. Refute it at one input. -/
def descAllWrong : ChangeSpec := { name := "descAll", fn := fun _ => fun
  | [d] => { results := [.lit (.bool false)], args := [d] }
  | _ => none }
def DescAllWrongFalsely : Prop := descAllRow.holds Try.pinned (OpenSpec.ofChange descAllWrong)

/-- 'pinfoldlaw02.DescRises': WHATEVER THE INPUT: true; the input reads as it did. -/
def descRisesSpec : ChangeSpec := { name := "descRises", fn := fun _ => fun
  | [d] => { results := [.lit (.bool true)], args := [d] }
  | _ => none }
def descRisesRow : OpenClaim := { program := "ytkebpmcgmmhifaa", sum := "0a11de40770a98bf3cde3a86402f3ee26dfb67eaa4a7b055fd9a71b47436d121", func := "pinfold/pinfoldlaw02.DescRises", spec := "descRises", inPlace := ["internal/bytealg.CountString", "internal/bytealg.IndexByteString", "internal/bytealg.IndexString"], unfollowed := true, recurses := true, named := ["internal/bytealg.MaxLen"], apart := false }
def DescRisesSaid : Prop := descRisesRow.holds Try.pinned (OpenSpec.ofChange descRisesSpec)

/-- ITS FALSE NEIGHBOUR: 'it returns false'. Refute it at one input. -/
def descRisesWrong : ChangeSpec := { name := "descRises", fn := fun _ => fun
  | [d] => { results := [.lit (.bool false)], args := [d] }
  | _ => none }
def DescRisesWrongFalsely : Prop := descRisesRow.holds Try.pinned (OpenSpec.ofChange descRisesWrong)

/-- 'pinfoldlaw02.DescNames': WHATEVER THE INPUT: true; the input reads as it did. -/
def descNamesSpec : ChangeSpec := { name := "descNames", fn := fun _ => fun
  | [d1, d2] => { results := [.lit (.bool true)], args := [d1, d2] }
  | _ => none }
def descNamesRow : OpenClaim := { program := "ytkebpmcgmmhifaa", sum := "0a11de40770a98bf3cde3a86402f3ee26dfb67eaa4a7b055fd9a71b47436d121", func := "pinfold/pinfoldlaw02.DescNames", spec := "descNames", inPlace := ["internal/bytealg.CountString", "internal/bytealg.IndexByteString", "internal/bytealg.IndexString"], unfollowed := true, recurses := true, named := ["internal/bytealg.MaxLen"], apart := false }
def DescNamesSaid : Prop := descNamesRow.holds Try.pinned (OpenSpec.ofChange descNamesSpec)

/-- ITS FALSE NEIGHBOUR: 'it returns false'. Refute it at one input. -/
def descNamesWrong : ChangeSpec := { name := "descNames", fn := fun _ => fun
  | [d1, d2] => { results := [.lit (.bool false)], args := [d1, d2] }
  | _ => none }
def DescNamesWrongFalsely : Prop := descNamesRow.holds Try.pinned (OpenSpec.ofChange descNamesWrong)

/-- 'pinfoldlaw02.DescLimits': WHATEVER THE INPUT: true; the input reads as it did. -/
def descLimitsSpec : ChangeSpec := { name := "descLimits", fn := fun _ => fun
  | [d] => { results := [.lit (.bool true)], args := [d] }
  | _ => none }
def descLimitsRow : OpenClaim := { program := "ytkebpmcgmmhifaa", sum := "0a11de40770a98bf3cde3a86402f3ee26dfb67eaa4a7b055fd9a71b47436d121", func := "pinfold/pinfoldlaw02.DescLimits", spec := "descLimits", inPlace := ["internal/bytealg.CountString", "internal/bytealg.IndexByteString", "internal/bytealg.IndexString"], unfollowed := true, recurses := true, named := ["internal/bytealg.MaxLen"], apart := false }
def DescLimitsSaid : Prop := descLimitsRow.holds Try.pinned (OpenSpec.ofChange descLimitsSpec)

/-- ITS FALSE NEIGHBOUR: 'it returns false'. Refute it at one input. -/
def descLimitsWrong : ChangeSpec := { name := "descLimits", fn := fun _ => fun
  | [d] => { results := [.lit (.bool false)], args := [d] }
  | _ => none }
def DescLimitsWrongFalsely : Prop := descLimitsRow.holds Try.pinned (OpenSpec.ofChange descLimitsWrong)

/-- 'pinfoldlaw02.DescBack': WHATEVER THE INPUT: true; the input reads as it did. -/
def descBackSpec : ChangeSpec := { name := "descBack", fn := fun _ => fun
  | [d] => { results := [.lit (.bool true)], args := [d] }
  | _ => none }
def descBackRow : OpenClaim := { program := "ytkebpmcgmmhifaa", sum := "0a11de40770a98bf3cde3a86402f3ee26dfb67eaa4a7b055fd9a71b47436d121", func := "pinfold/pinfoldlaw02.DescBack", spec := "descBack", inPlace := ["internal/bytealg.CountString", "internal/bytealg.IndexByteString", "internal/bytealg.IndexString", "internal/abi.NoEscape"], unfollowed := true, recurses := true, named := ["internal/bytealg.MaxLen"], apart := false }
def DescBackSaid : Prop := descBackRow.holds Try.pinned (OpenSpec.ofChange descBackSpec)

/-- ITS FALSE NEIGHBOUR: 'it returns false'. Refute it at one input. -/
def descBackWrong : ChangeSpec := { name := "descBack", fn := fun _ => fun
  | [d] => { results := [.lit (.bool false)], args := [d] }
  | _ => none }
def DescBackWrongFalsely : Prop := descBackRow.holds Try.pinned (OpenSpec.ofChange descBackWrong)

/- THE SECOND FORM. 'bulk': how many values and letters a reading holds, each counted each time it is reached (what is shared counts as often as it is met; a slice's spare places count too). A statement '..UptoSaid' is the law's where the arguments, and the package variables that the reading takes, are together of bulk at most 1048576: NARROWER than '..Said'. Prove '..Said' where nothing that the law and all that it calls make is longer than what came in: it says more and counts as full. Else prove '..UptoSaid'. A law counts once. -/
mutual
def uptoBulk {H : Type} : DataW H → Nat
  | .lit (.string bytes) => bytes.length + 1
  | .lit _ => 1
  | .nil => 1
  | .ptr d => uptoBulk d + 1
  | .slice elems spare => uptoBulkAll elems + uptoBulkAll spare + 1
  | .agg parts => uptoBulkAll parts + 1
  | .iface _ d => uptoBulk d + 1
  | .map entries => uptoBulkEntries entries + 1
  | .held _ => 1
def uptoBulkAll {H : Type} : List (DataW H) → Nat
  | [] => 0
  | d :: r => uptoBulk d + uptoBulkAll r
def uptoBulkEntries {H : Type} : List (Lit × DataW H) → Nat
  | [] => 0
  | x :: r => uptoBulkEntry x + uptoBulkEntries r
def uptoBulkEntry {H : Type} : Lit × DataW H → Nat
  | (.string bytes, d) => bytes.length + uptoBulk d + 1
  | (_, d) => uptoBulk d + 1
 end
def uptoSmall : (H : Type) → List (DataW H) → Bool := fun _ ds => decide (uptoBulkAll ds ≤ 1048576)
def OpenSpec.upto (s : _root_.Go.ChangeSpec) : _root_.Go.OpenSpec := { _root_.Go.OpenSpec.ofChange s with cond := some uptoSmall }

/-- 'pinfoldlaw02.DescAll', WHERE WHAT IT READS IS OF BULK AT MOST 1048576: true; the input reads as it did. -/
def descAllUptoRow : OpenClaim := { program := "ytkebpmcgmmhifaa", sum := "0a11de40770a98bf3cde3a86402f3ee26dfb67eaa4a7b055fd9a71b47436d121", func := "pinfold/pinfoldlaw02.DescAll", spec := "descAll", inPlace := ["internal/bytealg.CountString", "internal/bytealg.IndexByteString", "internal/bytealg.IndexString"], unfollowed := true, recurses := true, named := ["internal/bytealg.MaxLen"], apart := false, narrowed := true }
def DescAllUptoSaid : Prop := descAllUptoRow.holds Try.pinned (OpenSpec.upto descAllSpec)

/-- 'pinfoldlaw02.DescRises', WHERE WHAT IT READS IS OF BULK AT MOST 1048576: true; the input reads as it did. -/
def descRisesUptoRow : OpenClaim := { program := "ytkebpmcgmmhifaa", sum := "0a11de40770a98bf3cde3a86402f3ee26dfb67eaa4a7b055fd9a71b47436d121", func := "pinfold/pinfoldlaw02.DescRises", spec := "descRises", inPlace := ["internal/bytealg.CountString", "internal/bytealg.IndexByteString", "internal/bytealg.IndexString"], unfollowed := true, recurses := true, named := ["internal/bytealg.MaxLen"], apart := false, narrowed := true }
def DescRisesUptoSaid : Prop := descRisesUptoRow.holds Try.pinned (OpenSpec.upto descRisesSpec)

/-- 'pinfoldlaw02.DescNames', WHERE WHAT IT READS IS OF BULK AT MOST 1048576: true; the input reads as it did. -/
def descNamesUptoRow : OpenClaim := { program := "ytkebpmcgmmhifaa", sum := "0a11de40770a98bf3cde3a86402f3ee26dfb67eaa4a7b055fd9a71b47436d121", func := "pinfold/pinfoldlaw02.DescNames", spec := "descNames", inPlace := ["internal/bytealg.CountString", "internal/bytealg.IndexByteString", "internal/bytealg.IndexString"], unfollowed := true, recurses := true, named := ["internal/bytealg.MaxLen"], apart := false, narrowed := true }
def DescNamesUptoSaid : Prop := descNamesUptoRow.holds Try.pinned (OpenSpec.upto descNamesSpec)

/-- 'pinfoldlaw02.DescLimits', WHERE WHAT IT READS IS OF BULK AT MOST 1048576: true; the input reads as it did. -/
def descLimitsUptoRow : OpenClaim := { program := "ytkebpmcgmmhifaa", sum := "0a11de40770a98bf3cde3a86402f3ee26dfb67eaa4a7b055fd9a71b47436d121", func := "pinfold/pinfoldlaw02.DescLimits", spec := "descLimits", inPlace := ["internal/bytealg.CountString", "internal/bytealg.IndexByteString", "internal/bytealg.IndexString"], unfollowed := true, recurses := true, named := ["internal/bytealg.MaxLen"], apart := false, narrowed := true }
def DescLimitsUptoSaid : Prop := descLimitsUptoRow.holds Try.pinned (OpenSpec.upto descLimitsSpec)

/-- 'pinfoldlaw02.DescBack', WHERE WHAT IT READS IS OF BULK AT MOST 1048576: true; the input reads as it did. -/
def descBackUptoRow : OpenClaim := { program := "ytkebpmcgmmhifaa", sum := "0a11de40770a98bf3cde3a86402f3ee26dfb67eaa4a7b055fd9a71b47436d121", func := "pinfold/pinfoldlaw02.DescBack", spec := "descBack", inPlace := ["internal/bytealg.CountString", "internal/bytealg.IndexByteString", "internal/bytealg.IndexString", "internal/abi.NoEscape"], unfollowed := true, recurses := true, named := ["internal/bytealg.MaxLen"], apart := false, narrowed := true }
def DescBackUptoSaid : Prop := descBackUptoRow.holds Try.pinned (OpenSpec.upto descBackSpec)

end Rows
end Go.Proofs.Ytkebpmcgmmhifaa
