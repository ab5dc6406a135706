/- The law DescRises, at any text. -/
import Derived.Test.YtkebpmcgmmhifaaDescRisesLaw
import Derived.ChangeMaps5
namespace Go.Proofs.Ytkebpmcgmmhifaa
open Go.RowKit Go.WideShapes Go.ChangeShapes

theorem descRises_law {H : Type} {enc : TypeId × Value → H} {W : World} {v0 : Value} {d0 : DataW H} {p0 : List MemPlace} {b0 : Nat} (o0 : Value.okWide Try.prog W .any b0 9 v0) (h0 : DataW.Trod enc Try.prog W 0 (fun _ => true) true 9 v0 d0 p0) :
    Calls Try.prog 4 #[v0] W fun e W' => e = .returned (.bool true) ∧ Below W.heap.size W W' := by
  obtain ⟨s, rfl, _⟩ := Go.ChangeMaps.open_string Try.underlying9 o0 h0
  rw [← str_of s]
  exact descRises_calls s.data.toList W
end Go.Proofs.Ytkebpmcgmmhifaa
