/- Single operations on the bytes of texts; a loop of two rounds. -/
import Derived.Test.YtkebpmcgmmhifaaTexts
import Derived.Test.YtkebpmcgmmhifaaChr
import Derived.Test.YtkebpmcgmmhifaaRowStep
namespace Go.Proofs.Ytkebpmcgmmhifaa
open Go.RowKit

section
variable {P : Program} {o : Oper} {a : Act} (x y : Operand) {t t' : TypeId} {k : IntKind} {m n : Int}
theorem run_index_text (ho : o.op = .index t x y) (ht : P.underlying t = some .string) {l : List UInt8} (hx : a.eval x = .string (str l)) {I : Int} (hy : a.eval y = .int k I) (j : Nat) (hI : I = (j : Int)) (hj : j < l.length) (W : World) :
    (execOp a.eval o).run P W = .ok (.value (.int .u8 (chr l j))) W := by
  subst hI
  unfold execOp; simp only [ho]; generalize a.eval = ρ at *
  have r := run_index_str W t l k j ht hj
  simp only [hx, hy, Sem.run_bind]
  rw [r]
  rfl
theorem run_conv_u8 (ho : o.op = .convert t t' x) (ht : P.underlying t = some (.int .u8)) (ht' : P.underlying t' = some (.int .i64)) (hx : a.eval x = .int .u8 m) (h : 0 ≤ m ∧ m ≤ 255) (W : World) : (execOp a.eval o).run P W = .ok (.value (.int .i64 m)) W := by
  unfold execOp; simp only [ho, hx]
  simp [convert, run_underlying ht, run_underlying ht', Conv.intToInt, IntWalk.i64_in _ (show -9223372036854775808 ≤ m ∧ m ≤ 9223372036854775807 by omega)]
end
end Go.Proofs.Ytkebpmcgmmhifaa
