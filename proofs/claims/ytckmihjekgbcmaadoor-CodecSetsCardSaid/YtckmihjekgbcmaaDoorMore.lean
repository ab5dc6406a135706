/- Contracts in the form that gen/wx.py takes. -/
import Derived.Test.YtckmihjekgbcmaaDoorEqs
import Derived.Test.YtckmihjekgbcmaaDoorInts
import Derived.Test.YtckmihjekgbcmaaDoorRowStep
import Derived.Test.YtckmihjekgbcmaaDoorSets
namespace Go.Proofs.YtckmihjekgbcmaaDoor
open Go.RowKit

theorem has_below (S : Nat) (hS : Sm S) (n : Int) (w : World) : Calls Tryd.prog 38 #[.agg (setA S), .int .i64 n] w fun e w' => e = .returned (.bool (has S n)) ∧ Below w.heap.size w w' :=
  (has_calls S hS n w).mono fun _ _ ⟨h1, h2⟩ => ⟨h1, h2 ▸ bl_alloc (Below.refl _ _) _⟩
theorem refHas_below (S : Nat) (hS : Sm S) (n : Int) (w : World) : Calls Tryd.prog 33 #[.agg (setA S), .int .i64 n] w fun e w' => e = .returned (.bool (has S n)) ∧ Below w.heap.size w w' :=
  (refHas_calls S hS n w).mono fun _ _ ⟨h1, h2⟩ => ⟨h1, h2 ▸ bl_alloc (Below.refl _ _) _⟩
theorem run_index_set {o : Oper} {a : Act} (x y : Operand) (ho : o.op = .index 33 x y) {S i : Nat} {k : IntKind} (hx : a.eval x = .agg (setA S)) (hy : a.eval y = .int k (i : Int)) (h : i < 16) (W : World) :
    (execOp a.eval o).run Tryd.prog W = .ok (.value (.int .u64 ((wd S i : Nat) : Int))) W := by
  have hs : (sizeOf 31).run Tryd.prog W = .ok 1 W := by kernel_rfl
  have hagg : (isAgg 31).run Tryd.prog W = .ok false W := by kernel_rfl
  unfold execOp; simp only [ho, hx, hy]
  simp [Instr.index, asIntOf, run_underlying Tryd.underlying33, show (i : Int) < 16 from by omega, hs]
  simp [part, hagg, setA_get S i h]
  intro h16
  omega
end Go.Proofs.YtckmihjekgbcmaaDoor
