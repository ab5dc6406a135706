/- The law DescBack, at any text. -/
import Derived.Test.YtkebpmcgmmhifaaDescBackLaw
import Derived.ChangeMaps5
namespace Go.Proofs.Ytkebpmcgmmhifaa
open Go.RowKit Go.WideShapes Go.ChangeShapes

theorem descBack_law {H : Type} {enc : TypeId × Value → H} {W : World} {v0 : Value} {d0 : DataW H} {p0 : List MemPlace} {b0 : Nat} (o0 : Value.okWide Try.prog W .any b0 9 v0) (h0 : DataW.Trod enc Try.prog W 0 (fun _ => true) true 9 v0 d0 p0) :
    Calls Try.prog 7 #[v0] W fun e W' => e = .returned (.bool true) ∧ Below W.heap.size W W' := by
  obtain ⟨s, rfl, _⟩ := Go.ChangeMaps.open_string Try.underlying9 o0 h0
  rw [← str_of s]
  exact descBack_calls s.data.toList W
end Go.Proofs.Ytkebpmcgmmhifaa
