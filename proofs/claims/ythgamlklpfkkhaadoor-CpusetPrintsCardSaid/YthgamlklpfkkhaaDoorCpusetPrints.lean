/- The law CpusetPrints, at any arguments. -/
import Derived.Test.YthgamlklpfkkhaaDoorPrintsWalk
import Derived.Test.YthgamlklpfkkhaaDoorOpenSet
import Derived.ChangeMaps5
namespace Go.Proofs.YthgamlklpfkkhaaDoor
open Go.RowKit Go.WideShapes Go.ChangeShapes

theorem cpusetPrints_law {H : Type} {enc : TypeId × Value → H} {W : World} {v0 v1 v2 : Value} {d0 d1 d2 : DataW H} {p0 p1 p2 : List MemPlace} {b0 b1 b2 : Nat} (o0 : Value.okWide Tryd.prog W .any b0 24 v0) (o1 : Value.okWide Tryd.prog W .any b1 24 v1) (o2 : Value.okWide Tryd.prog W .any b2 9 v2) (h0 : DataW.Trod enc Tryd.prog W 0 (fun _ => true) true 24 v0 d0 p0) (h1 : DataW.Trod enc Tryd.prog W 0 (fun _ => true) true 24 v1 d1 p1) (h2 : DataW.Trod enc Tryd.prog W 0 (fun _ => true) true 9 v2 d2 p2) (hT : Tab W) :
    Calls Tryd.prog 4 #[v0, v1, v2] W fun e W' => e = .returned (.bool true) ∧ Below W.heap.size W W' := by
  obtain ⟨S, rfl, hS⟩ := open_set o0 h0
  obtain ⟨T, rfl, hT1⟩ := open_set o1 h1
  obtain ⟨s, rfl, _⟩ := Go.ChangeMaps.open_string Tryd.underlying9 o2 h2
  rw [← str_of s]
  exact cpusetPrints_calls S T hS hT1 s.data.toList W hT
end Go.Proofs.YthgamlklpfkkhaaDoor
