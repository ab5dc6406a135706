/- '==' and '!=' of sets and of texts, and the load of a set: at the operation. -/
import Derived.Test.YtkebpmcgmmhifaaStep
import Derived.Test.YtkebpmcgmmhifaaMake
import Derived.Test.YtkebpmcgmmhifaaStr
namespace Go.Proofs.Ytkebpmcgmmhifaa
open Go.RowKit Go.WideShapes Go.ChangeShapes

theorem str_toList (l : List UInt8) : (str l).toList = l := by rw [ByteArray.toList_eq, str_data]
theorem list_beq (l m : List UInt8) : (l == m) = decide (l = m) := by rw [Bool.eq_iff_iff, beq_iff_eq, decide_eq_true_iff]

/-- .. of two texts. -/
theorem run_eql_text {o : Oper} {a : Act} (x y : Operand) {t t' : TypeId} (ho : o.op = .binOp .eql t x y t') {l m : List UInt8} (hx : a.eval x = .string (str l)) (hy : a.eval y = .string (str m)) (W : World) :
    (execOp a.eval o).run Try.prog W = .ok (.value (.bool (decide (l = m)))) W := by
  unfold execOp
  simp only [ho, hx, hy]
  simp [eqGuard, binOp, Op.stringOp, str_toList, list_beq]
theorem run_neq_text {o : Oper} {a : Act} (x y : Operand) {t t' : TypeId} (ho : o.op = .binOp .neq t x y t') {l m : List UInt8} (hx : a.eval x = .string (str l)) (hy : a.eval y = .string (str m)) (W : World) :
    (execOp a.eval o).run Try.prog W = .ok (.value (.bool (!decide (l = m)))) W := by
  unfold execOp
  simp only [ho, hx, hy]
  simp [eqGuard, binOp, Op.stringOp, str_toList, list_beq]
section
variable {o : Oper} {a : Act} (x y : Operand) {t t' : TypeId}
theorem run_eql_text_t (ho : o.op = .binOp .eql t x y t') {l m : List UInt8} (hx : a.eval x = .string (str l)) (hy : a.eval y = .string (str m)) (h : l = m) (W : World) : (execOp a.eval o).run Try.prog W = .ok (.value (.bool true)) W := by
  rw [run_eql_text x y ho hx hy W, decide_eq_true h]
theorem run_eql_text_f (ho : o.op = .binOp .eql t x y t') {l m : List UInt8} (hx : a.eval x = .string (str l)) (hy : a.eval y = .string (str m)) (h : l ≠ m) (W : World) : (execOp a.eval o).run Try.prog W = .ok (.value (.bool false)) W := by
  rw [run_eql_text x y ho hx hy W, decide_eq_false h]
theorem run_neq_text_t (ho : o.op = .binOp .neq t x y t') {l m : List UInt8} (hx : a.eval x = .string (str l)) (hy : a.eval y = .string (str m)) (h : l = m) (W : World) : (execOp a.eval o).run Try.prog W = .ok (.value (.bool false)) W := by
  rw [run_neq_text x y ho hx hy W, decide_eq_true h]; rfl
theorem run_neq_text_f (ho : o.op = .binOp .neq t x y t') {l m : List UInt8} (hx : a.eval x = .string (str l)) (hy : a.eval y = .string (str m)) (h : l ≠ m) (W : World) : (execOp a.eval o).run Try.prog W = .ok (.value (.bool true)) W := by
  rw [run_neq_text x y ho hx hy W, decide_eq_false h]; rfl
theorem run_equalIn_bool (d : Nat) {t : TypeId} (h : Try.prog.underlying t = some .bool) (b c : Bool) (W : World) : (Op.equalIn (d + 1) t (.bool b) (.bool c)).run Try.prog W = .ok (b == c) W := by simp [Op.equalIn, run_underlying h]
theorem run_eql_bool (ho : o.op = .binOp .eql 4 x y t') {b c : Bool} (hx : a.eval x = .bool b) (hy : a.eval y = .bool c) (W : World) : (execOp a.eval o).run Try.prog W = .ok (.value (.bool (b == c))) W := by
  have e : binOp .eql 4 (.bool b) (.bool c) = (do pure (.bool (← Op.equal 4 (.bool b) (.bool c)))) := rfl
  have r := run_equalIn_bool 9999 Try.underlying4 b c W
  unfold execOp
  simp only [ho, hx, hy, e]
  simp [eqGuard, Op.equal, Op.maxDepth, r]
theorem run_neq_bool (ho : o.op = .binOp .neq 4 x y t') {b c : Bool} (hx : a.eval x = .bool b) (hy : a.eval y = .bool c) (W : World) : (execOp a.eval o).run Try.prog W = .ok (.value (.bool (b != c))) W := by
  have e : binOp .neq 4 (.bool b) (.bool c) = (do pure (.bool (!(← Op.equal 4 (.bool b) (.bool c))))) := rfl
  have r := run_equalIn_bool 9999 Try.underlying4 b c W
  unfold execOp
  simp only [ho, hx, hy, e]
  simp [eqGuard, Op.equal, Op.maxDepth, r, bne]
theorem run_neq_bool_t (ho : o.op = .binOp .neq 4 x y t') {b : Bool} (hx : a.eval x = .bool b) (hy : a.eval y = .bool b) (W : World) : (execOp a.eval o).run Try.prog W = .ok (.value (.bool false)) W := by
  rw [run_neq_bool x y ho hx hy W]; simp
theorem run_eql_bool_t (ho : o.op = .binOp .eql 4 x y t') {b : Bool} (hx : a.eval x = .bool b) (hy : a.eval y = .bool b) (W : World) : (execOp a.eval o).run Try.prog W = .ok (.value (.bool true)) W := by
  rw [run_eql_bool x y ho hx hy W]; simp
end
end Go.Proofs.Ytkebpmcgmmhifaa
