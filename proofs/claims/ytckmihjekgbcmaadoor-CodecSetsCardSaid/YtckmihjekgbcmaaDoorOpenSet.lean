/- A set among the arguments, laid open. -/
import Derived.Test.YtckmihjekgbcmaaDoorSet
namespace Go.Proofs.YtckmihjekgbcmaaDoor
open Go.RowKit Go.WideShapes Go.ChangeShapes

theorem open_set {H : Type} {enc : TypeId × Value → H} {w w' : World} {r : Reach} {b0 base : Nat} {spare : Nat → Bool} {held : Bool} {v : Value} {d : DataW H} {ps : List MemPlace}
    (hval : Value.okWide Tryd.prog w' r b0 33 v) (h : DataW.Trod enc Tryd.prog w base spare held 33 v d ps) : ∃ S, v = .agg (setA S) ∧ Sm S := by
  obtain ⟨cs, rfl, _⟩ := okWide_array Tryd.underlying33 hval
  obtain ⟨S, h1, h2⟩ := open_one (flat_set Tryd.underlying33 Tryd.underlying31 (by kernel_rfl) (by kernel_rfl)) h
  refine ⟨S, ?_, h2⟩
  have : cs.toList = setC S := h1
  rw [setA, ← this]
end Go.Proofs.YtckmihjekgbcmaaDoor
