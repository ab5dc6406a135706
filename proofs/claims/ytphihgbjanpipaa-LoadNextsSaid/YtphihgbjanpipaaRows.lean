/-
  No cell of these rows narrows 'for every input' (looked for: loops, veiled, ifaces, maps, wideKeys, modest, calm, conditions, laid).
  DERIVED. THE GIVEN ROWS OF THIS SEAT. 5 by the template 'for every input the law returns true; each argument reads behind the call as it read before'; 0 by the template 'total and deterministic' (their statements: YtphihgbjanpipaaTotals.lean).
  GIVEN WITH THE SEED: the statements are not yours to turn. If you find one false, say at which input.
  Laid BY PROGRAM, IN A SANDBOX (cutbox-rows.mjs): the forced cells as the released guide's own fill.sh prints them over the translation 948a0262a1b86d92… (all of the seat's roots in one cut). By AI agents, Wed Nov 11 2026. No macro, syntax, notation, axiom, sorry.
-/
import Derived.Test.YtphihgbjanpipaaChecked
import GoSem.Claim
import GoSem.ClaimJoined
import GoSem.ClaimMapViews
import Derived.JoinedTies
import Derived.KernelRfl
namespace Go.Proofs.Ytphihgbjanpipaa
/- THE CELL 'sum', in the pinned program and in every row, IS THE sha256 OF THE DUMP (.gsa) THAT YtphihgbjanpipaaProg.lean LOADS. Nothing in Lean hashes anything: it is a label: what it is worth is what the hold of that sum in a sandbox is worth. -/
noncomputable def Try.pinned : Pinned := { name := "ytphihgbjanpipaa", sum := "948a0262a1b86d9298d03f4124f2bb3ac28dfcbadbb8626004f09e94c332cfb1", checked := Try.checked }
namespace Rows
def none {H : Type} : Left H := { results := [], args := [] }

/-- 'pinfoldlaw15.LoadBounds': WHATEVER THE INPUT: true; the input reads as it did. -/
def loadBoundsSpec : ChangeSpec := { name := "loadBounds", fn := fun _ => fun
  | [d1, d2] => { results := [.lit (.bool true)], args := [d1, d2] }
  | _ => none }
def loadBoundsRow : OpenClaim := { program := "ytphihgbjanpipaa", sum := "948a0262a1b86d9298d03f4124f2bb3ac28dfcbadbb8626004f09e94c332cfb1", func := "pinfold/pinfoldlaw15.LoadBounds", spec := "loadBounds", apart := false }
def LoadBoundsSaid : Prop := loadBoundsRow.holds Try.pinned (OpenSpec.ofChange loadBoundsSpec)

/-- ITS FALSE NEIGHBOUR: 'it returns false'. Refute it at one input. -/
def loadBoundsWrong : ChangeSpec := { name := "loadBounds", fn := fun _ => fun
  | [d1, d2] => { results := [.lit (.bool false)], args := [d1, d2] }
  | _ => none }
def LoadBoundsWrongFalsely : Prop := loadBoundsRow.holds Try.pinned (OpenSpec.ofChange loadBoundsWrong)

/-- 'pinfoldlaw15.LoadRests': WHATEVER THE INPUT: true; the input reads as it did. -/
def loadRestsSpec : ChangeSpec := { name := "loadRests", fn := fun _ => fun
  | [d1, d2] => { results := [.lit (.bool true)], args := [d1, d2] }
  | _ => none }
def loadRestsRow : OpenClaim := { program := "ytphihgbjanpipaa", sum := "948a0262a1b86d9298d03f4124f2bb3ac28dfcbadbb8626004f09e94c332cfb1", func := "pinfold/pinfoldlaw15.LoadRests", spec := "loadRests", apart := false }
def LoadRestsSaid : Prop := loadRestsRow.holds Try.pinned (OpenSpec.ofChange loadRestsSpec)

/-- ITS FALSE NEIGHBOUR: 'it returns false'. Refute it at one input. -/
def loadRestsWrong : ChangeSpec := { name := "loadRests", fn := fun _ => fun
  | [d1, d2] => { results := [.lit (.bool false)], args := [d1, d2] }
  | _ => none }
def LoadRestsWrongFalsely : Prop := loadRestsRow.holds Try.pinned (OpenSpec.ofChange loadRestsWrong)

/-- 'pinfoldlaw15.LoadNexts': WHATEVER THE INPUT: true; the input reads as it did. -/
def loadNextsSpec : ChangeSpec := { name := "loadNexts", fn := fun _ => fun
  | [d1, d2, d3] => { results := [.lit (.bool true)], args := [d1, d2, d3] }
  | _ => none }
def loadNextsRow : OpenClaim := { program := "ytphihgbjanpipaa", sum := "948a0262a1b86d9298d03f4124f2bb3ac28dfcbadbb8626004f09e94c332cfb1", func := "pinfold/pinfoldlaw15.LoadNexts", spec := "loadNexts", apart := false }
def LoadNextsSaid : Prop := loadNextsRow.holds Try.pinned (OpenSpec.ofChange loadNextsSpec)

/-- ITS FALSE NEIGHBOUR: 'it returns false'. Refute it at one input. -/
def loadNextsWrong : ChangeSpec := { name := "loadNexts", fn := fun _ => fun
  | [d1, d2, d3] => { results := [.lit (.bool false)], args := [d1, d2, d3] }
  | _ => none }
def LoadNextsWrongFalsely : Prop := loadNextsRow.holds Try.pinned (OpenSpec.ofChange loadNextsWrong)

/-- 'pinfoldlaw15.LoadWhole': WHATEVER THE INPUT: true; the input reads as it did. -/
def loadWholeSpec : ChangeSpec := { name := "loadWhole", fn := fun _ => fun
  | [d1, d2] => { results := [.lit (.bool true)], args := [d1, d2] }
  | _ => none }
def loadWholeRow : OpenClaim := { program := "ytphihgbjanpipaa", sum := "948a0262a1b86d9298d03f4124f2bb3ac28dfcbadbb8626004f09e94c332cfb1", func := "pinfold/pinfoldlaw15.LoadWhole", spec := "loadWhole", unfollowed := true, recurses := true, apart := false }
def LoadWholeSaid : Prop := loadWholeRow.holds Try.pinned (OpenSpec.ofChange loadWholeSpec)

/-- ITS FALSE NEIGHBOUR: 'it returns false'. Refute it at one input. -/
def loadWholeWrong : ChangeSpec := { name := "loadWhole", fn := fun _ => fun
  | [d1, d2] => { results := [.lit (.bool false)], args := [d1, d2] }
  | _ => none }
def LoadWholeWrongFalsely : Prop := loadWholeRow.holds Try.pinned (OpenSpec.ofChange loadWholeWrong)

/-- 'pinfoldlaw15.LoadPlays': WHATEVER THE INPUT: true; the input reads as it did. -/
def loadPlaysSpec : ChangeSpec := { name := "loadPlays", fn := fun _ => fun
  | [d1, d2, d3] => { results := [.lit (.bool true)], args := [d1, d2, d3] }
  | _ => none }
def loadPlaysRow : OpenClaim := { program := "ytphihgbjanpipaa", sum := "948a0262a1b86d9298d03f4124f2bb3ac28dfcbadbb8626004f09e94c332cfb1", func := "pinfold/pinfoldlaw15.LoadPlays", spec := "loadPlays", unfollowed := true, recurses := true, apart := false }
def LoadPlaysSaid : Prop := loadPlaysRow.holds Try.pinned (OpenSpec.ofChange loadPlaysSpec)

/-- ITS FALSE NEIGHBOUR: 'it returns false'. Refute it at one input. -/
def loadPlaysWrong : ChangeSpec := { name := "loadPlays", fn := fun _ => fun
  | [d1, d2, d3] => { results := [.lit (.bool false)], args := [d1, d2, d3] }
  | _ => none }
def LoadPlaysWrongFalsely : Prop := loadPlaysRow.holds Try.pinned (OpenSpec.ofChange loadPlaysWrong)

/- THE SECOND FORM. 'bulk': how many values and letters a reading holds, each counted each time it is reached (what is shared counts as often as it is met; a slice's spare places count too). A statement '..UptoSaid' is the law's where the arguments, and the package variables that the reading takes, are together of bulk at most 1048576: NARROWER than '..Said'. Prove '..Said' where nothing that the law and all that it calls make is longer than what came in: it says more and counts as full. Else prove '..UptoSaid'. A law counts once. -/
mutual
def uptoBulk {H : Type} : DataW H → Nat
  | .lit (.string bytes) => bytes.length + 1
  | .lit _ => 1
  | .nil => 1
  | .ptr d => uptoBulk d + 1
  | .slice elems spare => uptoBulkAll elems + uptoBulkAll spare + 1
  | .agg parts => uptoBulkAll parts + 1
  | .iface _ d => uptoBulk d + 1
  | .map entries => uptoBulkEntries entries + 1
  | .held _ => 1
def uptoBulkAll {H : Type} : List (DataW H) → Nat
  | [] => 0
  | d :: r => uptoBulk d + uptoBulkAll r
def uptoBulkEntries {H : Type} : List (Lit × DataW H) → Nat
  | [] => 0
  | x :: r => uptoBulkEntry x + uptoBulkEntries r
def uptoBulkEntry {H : Type} : Lit × DataW H → Nat
  | (.string bytes, d) => bytes.length + uptoBulk d + 1
  | (_, d) => uptoBulk d + 1
 end
def uptoSmall : (H : Type) → List (DataW H) → Bool := fun _ ds => decide (uptoBulkAll ds ≤ 1048576)
def OpenSpec.upto (s : _root_.Go.ChangeSpec) : _root_.Go.OpenSpec := { _root_.Go.OpenSpec.ofChange s with cond := some uptoSmall }

/-- 'pinfoldlaw15.LoadBounds', WHERE WHAT IT READS IS OF BULK AT MOST 1048576: true; the input reads as it did. -/
def loadBoundsUptoRow : OpenClaim := { program := "ytphihgbjanpipaa", sum := "948a0262a1b86d9298d03f4124f2bb3ac28dfcbadbb8626004f09e94c332cfb1", func := "pinfold/pinfoldlaw15.LoadBounds", spec := "loadBounds", apart := false, narrowed := true }
def LoadBoundsUptoSaid : Prop := loadBoundsUptoRow.holds Try.pinned (OpenSpec.upto loadBoundsSpec)

/-- 'pinfoldlaw15.LoadRests', WHERE WHAT IT READS IS OF BULK AT MOST 1048576: true; the input reads as it did. -/
def loadRestsUptoRow : OpenClaim := { program := "ytphihgbjanpipaa", sum := "948a0262a1b86d9298d03f4124f2bb3ac28dfcbadbb8626004f09e94c332cfb1", func := "pinfold/pinfoldlaw15.LoadRests", spec := "loadRests", apart := false, narrowed := true }
def LoadRestsUptoSaid : Prop := loadRestsUptoRow.holds Try.pinned (OpenSpec.upto loadRestsSpec)

/-- 'pinfoldlaw15.LoadNexts', WHERE WHAT IT READS IS OF BULK AT MOST 1048576: true; the input reads as it did. -/
def loadNextsUptoRow : OpenClaim := { program := "ytphihgbjanpipaa", sum := "948a0262a1b86d9298d03f4124f2bb3ac28dfcbadbb8626004f09e94c332cfb1", func := "pinfold/pinfoldlaw15.LoadNexts", spec := "loadNexts", apart := false, narrowed := true }
def LoadNextsUptoSaid : Prop := loadNextsUptoRow.holds Try.pinned (OpenSpec.upto loadNextsSpec)

/-- 'pinfoldlaw15.LoadWhole', WHERE WHAT IT READS IS OF BULK AT MOST 1048576: true; the input reads as it did. -/
def loadWholeUptoRow : OpenClaim := { program := "ytphihgbjanpipaa", sum := "948a0262a1b86d9298d03f4124f2bb3ac28dfcbadbb8626004f09e94c332cfb1", func := "pinfold/pinfoldlaw15.LoadWhole", spec := "loadWhole", unfollowed := true, recurses := true, apart := false, narrowed := true }
def LoadWholeUptoSaid : Prop := loadWholeUptoRow.holds Try.pinned (OpenSpec.upto loadWholeSpec)

/-- 'pinfoldlaw15.LoadPlays', WHERE WHAT IT READS IS OF BULK AT MOST 1048576: true; the input reads as it did. -/
def loadPlaysUptoRow : OpenClaim := { program := "ytphihgbjanpipaa", sum := "948a0262a1b86d9298d03f4124f2bb3ac28dfcbadbb8626004f09e94c332cfb1", func := "pinfold/pinfoldlaw15.LoadPlays", spec := "loadPlays", unfollowed := true, recurses := true, apart := false, narrowed := true }
def LoadPlaysUptoSaid : Prop := loadPlaysUptoRow.holds Try.pinned (OpenSpec.upto loadPlaysSpec)

end Rows
end Go.Proofs.Ytphihgbjanpipaa
