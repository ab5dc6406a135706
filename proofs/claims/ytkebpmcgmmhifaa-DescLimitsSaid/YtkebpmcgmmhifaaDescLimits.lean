/- The law DescLimits, at any number. -/
import Derived.Test.YtkebpmcgmmhifaaDescLimitsLaw
namespace Go.Proofs.Ytkebpmcgmmhifaa
open Go.RowKit Go.WideShapes Go.ChangeShapes

theorem descLimits_law {H : Type} {enc : TypeId × Value → H} {W : World} {v0 : Value} {d0 : DataW H} {p0 : List MemPlace} {b0 : Nat} (o0 : Value.okWide Try.prog W .any b0 3 v0) (h0 : DataW.Trod enc Try.prog W 0 (fun _ => true) true 3 v0 d0 p0) :
    Calls Try.prog 6 #[v0] W fun e W' => e = .returned (.bool true) ∧ Below W.heap.size W W' := by
  obtain ⟨n, rfl, _, _, _⟩ := open_int Try.underlying3 o0 h0
  exact descLimits_calls n W
end Go.Proofs.Ytkebpmcgmmhifaa
