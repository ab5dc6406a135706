/- The law CpusetLaws, at any arguments. -/
import Derived.Test.YthgamlklpfkkhaaDoorLawsWalk
import Derived.Test.YthgamlklpfkkhaaDoorOpenSet
namespace Go.Proofs.YthgamlklpfkkhaaDoor
open Go.RowKit Go.WideShapes Go.ChangeShapes

theorem cpusetLaws_law {H : Type} {enc : TypeId × Value → H} {W : World} {v0 v1 v2 : Value} {d0 d1 d2 : DataW H} {p0 p1 p2 : List MemPlace} {b0 b1 b2 : Nat} (o0 : Value.okWide Tryd.prog W .any b0 24 v0) (o1 : Value.okWide Tryd.prog W .any b1 24 v1) (o2 : Value.okWide Tryd.prog W .any b2 24 v2) (h0 : DataW.Trod enc Tryd.prog W 0 (fun _ => true) true 24 v0 d0 p0) (h1 : DataW.Trod enc Tryd.prog W 0 (fun _ => true) true 24 v1 d1 p1) (h2 : DataW.Trod enc Tryd.prog W 0 (fun _ => true) true 24 v2 d2 p2) (hT : Tab W) :
    Calls Tryd.prog 9 #[v0, v1, v2] W fun e W' => e = .returned (.bool true) ∧ Below W.heap.size W W' := by
  obtain ⟨A, rfl, hA⟩ := open_set o0 h0
  obtain ⟨B, rfl, hB⟩ := open_set o1 h1
  obtain ⟨D, rfl, hD⟩ := open_set o2 h2
  exact laws_calls A B D hA hB hD W hT
end Go.Proofs.YthgamlklpfkkhaaDoor
