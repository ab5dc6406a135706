/- The law CpusetNext, at any arguments. -/
import Derived.Test.YthgamlklpfkkhaaDoorNextWalk
import Derived.Test.YthgamlklpfkkhaaDoorOpenSet
namespace Go.Proofs.YthgamlklpfkkhaaDoor
open Go.RowKit Go.WideShapes Go.ChangeShapes

theorem cpusetNext_law {H : Type} {enc : TypeId × Value → H} {W : World} {v0 v1 : Value} {d0 d1 : DataW H} {p0 p1 : List MemPlace} {b0 b1 : Nat} (o0 : Value.okWide Tryd.prog W .any b0 24 v0) (o1 : Value.okWide Tryd.prog W .any b1 3 v1) (h0 : DataW.Trod enc Tryd.prog W 0 (fun _ => true) true 24 v0 d0 p0) (h1 : DataW.Trod enc Tryd.prog W 0 (fun _ => true) true 3 v1 d1 p1) (hT : Tab W) :
    Calls Tryd.prog 8 #[v0, v1] W fun e W' => e = .returned (.bool true) ∧ Below W.heap.size W W' := by
  obtain ⟨S, rfl, hS⟩ := open_set o0 h0
  obtain ⟨f, rfl, _, _, _⟩ := open_int Tryd.underlying3 o1 h1
  exact cpusetNext_calls S hS f W hT
end Go.Proofs.YthgamlklpfkkhaaDoor
