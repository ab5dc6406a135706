/- Single operations on the bytes of texts; a loop of two rounds. -/
import Derived.Test.YthgamlklpfkkhaaDoorTexts
import Derived.Test.YthgamlklpfkkhaaDoorDigit
import Derived.Test.YthgamlklpfkkhaaDoorRowStep
namespace Go.Proofs.YthgamlklpfkkhaaDoor
open Go.RowKit

section
variable {P : Program} {o : Oper} {a : Act} (x y : Operand) {t t' : TypeId} {k : IntKind} {m n : Int}
theorem run_index_text (ho : o.op = .index t x y) (ht : P.underlying t = some .string) {l : List UInt8} (hx : a.eval x = .string (str l)) {I : Int} (hy : a.eval y = .int k I) (j : Nat) (hI : I = (j : Int)) (hj : j < l.length) (W : World) :
    (execOp a.eval o).run P W = .ok (.value (.int .u8 (chr l j))) W := by
  subst hI
  unfold execOp; simp only [ho]; generalize a.eval = ρ at *
  have r := run_index_str W t l k j ht hj
  simp only [hx, hy, Sem.run_bind]
  rw [r]
  rfl
theorem run_conv_u8 (ho : o.op = .convert t t' x) (ht : P.underlying t = some (.int .u8)) (ht' : P.underlying t' = some (.int .i64)) (hx : a.eval x = .int .u8 m) (h : 0 ≤ m ∧ m ≤ 255) (W : World) : (execOp a.eval o).run P W = .ok (.value (.int .i64 m)) W := by
  unfold execOp; simp only [ho, hx]
  simp [convert, run_underlying ht, run_underlying ht', Conv.intToInt, IntWalk.i64_in _ (show -9223372036854775808 ≤ m ∧ m ≤ 9223372036854775807 by omega)]
end
/-- The rounds of a loop that has few. -/
def rounds (P : Program) (c : Code) (Q : Exit → Act → World → Prop) : Nat → Act → World → Prop
  | 0, a, w => c.wp P (Exit.then (fun _ _ => False) Q) a w
  | n + 1, a, w => c.wp P (Exit.then (rounds P c Q n) Q) a w
theorem then_mono {Q : Exit → Act → World → Prop} {f g : Act → World → Prop} (h : ∀ a w, f a w → g a w) : ∀ e a w, Exit.then f Q e a w → Exit.then g Q e a w := by
  intro e a w
  cases e <;> simp only [Exit.then] <;> first | exact h a w | exact id
theorem wp_loop_two {P : Program} {c : Code} {Q : Exit → Act → World → Prop} {a : Act} {w : World}
    (h : c.wp P (Exit.then (fun a' w' => c.wp P (Exit.then (fun _ _ => False) Q) a' w') Q) a w) : (Code.loop c).wp P Q a w := by
  refine wp_loop_left (rounds P c Q) 1 h fun n a w hn => ?_
  cases n with
  | zero => exact wp_mono hn (then_mono fun _ _ f => f.elim)
  | succ n => exact wp_mono hn (then_mono fun a' w' f => ⟨n, Nat.lt_succ_self n, f⟩)
end Go.Proofs.YthgamlklpfkkhaaDoor
