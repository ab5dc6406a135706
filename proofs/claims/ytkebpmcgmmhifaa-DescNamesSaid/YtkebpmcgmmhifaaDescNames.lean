/- The law DescNames, at any text and number. -/
import Derived.Test.YtkebpmcgmmhifaaDescNamesLaw
import Derived.ChangeMaps5
namespace Go.Proofs.Ytkebpmcgmmhifaa
open Go.RowKit Go.WideShapes Go.ChangeShapes

theorem descNames_law {H : Type} {enc : TypeId × Value → H} {W : World} {v0 v1 : Value} {d0 d1 : DataW H} {p0 p1 : List MemPlace} {b0 b1 : Nat} (o0 : Value.okWide Try.prog W .any b0 9 v0) (o1 : Value.okWide Try.prog W .any b1 3 v1) (h0 : DataW.Trod enc Try.prog W 0 (fun _ => true) true 9 v0 d0 p0) (h1 : DataW.Trod enc Try.prog W 0 (fun _ => true) true 3 v1 d1 p1) :
    Calls Try.prog 5 #[v0, v1] W fun e W' => e = .returned (.bool true) ∧ Below W.heap.size W W' := by
  obtain ⟨s, rfl, _⟩ := Go.ChangeMaps.open_string Try.underlying9 o0 h0
  obtain ⟨off, rfl, _, _, _⟩ := open_int Try.underlying3 o1 h1
  rw [← str_of s]
  exact descNames_calls s.data.toList off W
end Go.Proofs.Ytkebpmcgmmhifaa
