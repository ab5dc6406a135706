/- Contracts in the form that gen/wx.py takes. -/
import Derived.Test.YthgamlklpfkkhaaDoorEqs
import Derived.Test.YthgamlklpfkkhaaDoorInts
import Derived.Test.YthgamlklpfkkhaaDoorRowStep
import Derived.Test.YthgamlklpfkkhaaDoorSets
namespace Go.Proofs.YthgamlklpfkkhaaDoor
open Go.RowKit

theorem has_below (S : Nat) (hS : Sm S) (n : Int) (w : World) : Calls Tryd.prog 25 #[.agg (setA S), .int .i64 n] w fun e w' => e = .returned (.bool (has S n)) ∧ Below w.heap.size w w' :=
  (has_calls S hS n w).mono fun _ _ ⟨h1, h2⟩ => ⟨h1, h2 ▸ bl_alloc (Below.refl _ _) _⟩
theorem refHas_below (S : Nat) (hS : Sm S) (n : Int) (w : World) : Calls Tryd.prog 26 #[.agg (setA S), .int .i64 n] w fun e w' => e = .returned (.bool (has S n)) ∧ Below w.heap.size w w' :=
  (refHas_calls S hS n w).mono fun _ _ ⟨h1, h2⟩ => ⟨h1, h2 ▸ bl_alloc (Below.refl _ _) _⟩
end Go.Proofs.YthgamlklpfkkhaaDoor
