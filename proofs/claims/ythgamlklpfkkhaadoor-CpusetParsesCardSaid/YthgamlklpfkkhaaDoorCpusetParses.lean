/- The law CpusetParses, at any arguments. -/
import Derived.Test.YthgamlklpfkkhaaDoorParsesWalk
import Derived.ChangeMaps5
namespace Go.Proofs.YthgamlklpfkkhaaDoor
open Go.RowKit Go.WideShapes Go.ChangeShapes

theorem cpusetParses_law {H : Type} {enc : TypeId × Value → H} {W : World} {v0 : Value} {d0 : DataW H} {p0 : List MemPlace} {b0 : Nat} (o0 : Value.okWide Tryd.prog W .any b0 9 v0) (h0 : DataW.Trod enc Tryd.prog W 0 (fun _ => true) true 9 v0 d0 p0) (hT : Tab W) :
    Calls Tryd.prog 3 #[v0] W fun e W' => e = .returned (.bool true) ∧ Below W.heap.size W W' := by
  obtain ⟨s, rfl, _⟩ := Go.ChangeMaps.open_string Tryd.underlying9 o0 h0
  rw [← str_of s]
  exact cpusetParses_calls s.data.toList W hT
end Go.Proofs.YthgamlklpfkkhaaDoor
