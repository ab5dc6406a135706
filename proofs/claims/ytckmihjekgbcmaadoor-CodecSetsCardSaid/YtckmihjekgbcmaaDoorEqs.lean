/- '==' and '!=' of sets and of texts, and the load of a set: at the operation. -/
import Derived.Test.YtckmihjekgbcmaaDoorStep
import Derived.Test.YtckmihjekgbcmaaDoorMake
import Derived.Test.YtckmihjekgbcmaaDoorStr
namespace Go.Proofs.YtckmihjekgbcmaaDoor
open Go.RowKit Go.WideShapes Go.ChangeShapes

theorem str_toList (l : List UInt8) : (str l).toList = l := by rw [ByteArray.toList_eq, str_data]
theorem list_beq (l m : List UInt8) : (l == m) = decide (l = m) := by rw [Bool.eq_iff_iff, beq_iff_eq, decide_eq_true_iff]

/-- '==' and '!=' of two sets. -/
theorem run_eql_set {o : Oper} {a : Act} (x y : Operand) {t' : TypeId} (ho : o.op = .binOp .eql 33 x y t') {S T : Nat} (hx : a.eval x = .agg (setA S)) (hy : a.eval y = .agg (setA T)) (hS : Sm S) (hT : Sm T) (W : World) :
    (execOp a.eval o).run Tryd.prog W = .ok (.value (.bool (decide (S = T)))) W := by
  have hg : Tryd.prog.eqGuardType Tryd.prog.depth 33 = false := by kernel_rfl
  unfold execOp
  simp only [ho, hx, hy]
  simp [eqGuard, hg, binOp, Op.equal, Op.maxDepth, run_eqS hS hT]
theorem run_neq_set {o : Oper} {a : Act} (x y : Operand) {t' : TypeId} (ho : o.op = .binOp .neq 33 x y t') {S T : Nat} (hx : a.eval x = .agg (setA S)) (hy : a.eval y = .agg (setA T)) (hS : Sm S) (hT : Sm T) (W : World) :
    (execOp a.eval o).run Tryd.prog W = .ok (.value (.bool (!decide (S = T)))) W := by
  have hg : Tryd.prog.eqGuardType Tryd.prog.depth 33 = false := by kernel_rfl
  unfold execOp
  simp only [ho, hx, hy]
  simp [eqGuard, hg, binOp, Op.equal, Op.maxDepth, run_eqS hS hT]
/-- .. of two texts. -/
theorem run_eql_text {o : Oper} {a : Act} (x y : Operand) {t t' : TypeId} (ho : o.op = .binOp .eql t x y t') {l m : List UInt8} (hx : a.eval x = .string (str l)) (hy : a.eval y = .string (str m)) (W : World) :
    (execOp a.eval o).run Tryd.prog W = .ok (.value (.bool (decide (l = m)))) W := by
  unfold execOp
  simp only [ho, hx, hy]
  simp [eqGuard, binOp, Op.stringOp, str_toList, list_beq]
theorem run_neq_text {o : Oper} {a : Act} (x y : Operand) {t t' : TypeId} (ho : o.op = .binOp .neq t x y t') {l m : List UInt8} (hx : a.eval x = .string (str l)) (hy : a.eval y = .string (str m)) (W : World) :
    (execOp a.eval o).run Tryd.prog W = .ok (.value (.bool (!decide (l = m)))) W := by
  unfold execOp
  simp only [ho, hx, hy]
  simp [eqGuard, binOp, Op.stringOp, str_toList, list_beq]
section
variable {o : Oper} {a : Act} (x y : Operand) {t t' : TypeId}
theorem run_eql_set_t (ho : o.op = .binOp .eql 33 x y t') {S T : Nat} (hx : a.eval x = .agg (setA S)) (hy : a.eval y = .agg (setA T)) (hS : Sm S) (hT : Sm T) (h : S = T) (W : World) : (execOp a.eval o).run Tryd.prog W = .ok (.value (.bool true)) W := by
  rw [run_eql_set x y ho hx hy hS hT W, decide_eq_true h]
theorem run_eql_set_f (ho : o.op = .binOp .eql 33 x y t') {S T : Nat} (hx : a.eval x = .agg (setA S)) (hy : a.eval y = .agg (setA T)) (hS : Sm S) (hT : Sm T) (h : S ≠ T) (W : World) : (execOp a.eval o).run Tryd.prog W = .ok (.value (.bool false)) W := by
  rw [run_eql_set x y ho hx hy hS hT W, decide_eq_false h]
theorem run_neq_set_t (ho : o.op = .binOp .neq 33 x y t') {S T : Nat} (hx : a.eval x = .agg (setA S)) (hy : a.eval y = .agg (setA T)) (hS : Sm S) (hT : Sm T) (h : S = T) (W : World) : (execOp a.eval o).run Tryd.prog W = .ok (.value (.bool false)) W := by
  rw [run_neq_set x y ho hx hy hS hT W, decide_eq_true h]; rfl
theorem run_neq_set_f (ho : o.op = .binOp .neq 33 x y t') {S T : Nat} (hx : a.eval x = .agg (setA S)) (hy : a.eval y = .agg (setA T)) (hS : Sm S) (hT : Sm T) (h : S ≠ T) (W : World) : (execOp a.eval o).run Tryd.prog W = .ok (.value (.bool true)) W := by
  rw [run_neq_set x y ho hx hy hS hT W, decide_eq_false h]; rfl
theorem run_eql_text_t (ho : o.op = .binOp .eql t x y t') {l m : List UInt8} (hx : a.eval x = .string (str l)) (hy : a.eval y = .string (str m)) (h : l = m) (W : World) : (execOp a.eval o).run Tryd.prog W = .ok (.value (.bool true)) W := by
  rw [run_eql_text x y ho hx hy W, decide_eq_true h]
theorem run_eql_text_f (ho : o.op = .binOp .eql t x y t') {l m : List UInt8} (hx : a.eval x = .string (str l)) (hy : a.eval y = .string (str m)) (h : l ≠ m) (W : World) : (execOp a.eval o).run Tryd.prog W = .ok (.value (.bool false)) W := by
  rw [run_eql_text x y ho hx hy W, decide_eq_false h]
theorem run_neq_text_t (ho : o.op = .binOp .neq t x y t') {l m : List UInt8} (hx : a.eval x = .string (str l)) (hy : a.eval y = .string (str m)) (h : l = m) (W : World) : (execOp a.eval o).run Tryd.prog W = .ok (.value (.bool false)) W := by
  rw [run_neq_text x y ho hx hy W, decide_eq_true h]; rfl
theorem run_neq_text_f (ho : o.op = .binOp .neq t x y t') {l m : List UInt8} (hx : a.eval x = .string (str l)) (hy : a.eval y = .string (str m)) (h : l ≠ m) (W : World) : (execOp a.eval o).run Tryd.prog W = .ok (.value (.bool true)) W := by
  rw [run_neq_text x y ho hx hy W, decide_eq_false h]; rfl
theorem run_equalIn_bool (d : Nat) {t : TypeId} (h : Tryd.prog.underlying t = some .bool) (b c : Bool) (W : World) : (Op.equalIn (d + 1) t (.bool b) (.bool c)).run Tryd.prog W = .ok (b == c) W := by simp [Op.equalIn, run_underlying h]
theorem run_eql_bool (ho : o.op = .binOp .eql 4 x y t') {b c : Bool} (hx : a.eval x = .bool b) (hy : a.eval y = .bool c) (W : World) : (execOp a.eval o).run Tryd.prog W = .ok (.value (.bool (b == c))) W := by
  have e : binOp .eql 4 (.bool b) (.bool c) = (do pure (.bool (← Op.equal 4 (.bool b) (.bool c)))) := rfl
  have r := run_equalIn_bool 9999 Tryd.underlying4 b c W
  unfold execOp
  simp only [ho, hx, hy, e]
  simp [eqGuard, Op.equal, Op.maxDepth, r]
theorem run_neq_bool (ho : o.op = .binOp .neq 4 x y t') {b c : Bool} (hx : a.eval x = .bool b) (hy : a.eval y = .bool c) (W : World) : (execOp a.eval o).run Tryd.prog W = .ok (.value (.bool (b != c))) W := by
  have e : binOp .neq 4 (.bool b) (.bool c) = (do pure (.bool (!(← Op.equal 4 (.bool b) (.bool c))))) := rfl
  have r := run_equalIn_bool 9999 Tryd.underlying4 b c W
  unfold execOp
  simp only [ho, hx, hy, e]
  simp [eqGuard, Op.equal, Op.maxDepth, r, bne]
theorem run_neq_bool_t (ho : o.op = .binOp .neq 4 x y t') {b : Bool} (hx : a.eval x = .bool b) (hy : a.eval y = .bool b) (W : World) : (execOp a.eval o).run Tryd.prog W = .ok (.value (.bool false)) W := by
  rw [run_neq_bool x y ho hx hy W]; simp
theorem run_eql_bool_t (ho : o.op = .binOp .eql 4 x y t') {b : Bool} (hx : a.eval x = .bool b) (hy : a.eval y = .bool b) (W : World) : (execOp a.eval o).run Tryd.prog W = .ok (.value (.bool true)) W := by
  rw [run_eql_bool x y ho hx hy W]; simp
end
theorem run_build_set {o : Oper} {a : Act} (ho : o.op = .build 33 #[]) (W : World) : (execOp a.eval o).run Tryd.prog W = .ok (.value (.agg (setA 0))) W := by
  unfold execOp
  simp only [ho, setA_zero]
  kernel_rfl
theorem run_load_set {o : Oper} {a : Act} {W : World} (x : Operand) (ho : o.op = .load 33 x) (g : Nat) (hx : a.eval x = .pointer (some ⟨g, 0, none⟩)) (S : Nat) {t : TypeId} (hg : Blk W g (setA S) t) : (execOp a.eval o).run Tryd.prog W = .ok (.value (.agg (setA S))) W := by
  unfold execOp
  simp only [ho, hx, Instr.loadAt, Instr.sureAddr, Sem.run_bind, Sem.run_pure, Result.andThen_ok, run_loadVar_row W g t _ _ _ _ hg Tryd.underlying33 rfl (info_setA S)]
theorem run_box_set {o : Oper} {a : Act} (x : Operand) (ho : o.op = .box 33 x) {S : Nat} (hx : a.eval x = .agg (setA S)) (W : World) : (execOp a.eval o).run Tryd.prog W = .ok (.value (.pointer (some ⟨W.heap.size, 0, none⟩))) (W.alloc (.cells (setA S) 33)) := by
  unfold execOp
  simp only [ho, hx]
  go_simp
theorem run_alloc_set {o : Oper} {a : Act} (ho : o.op = .alloc 33) (W : World) : (execOp a.eval o).run Tryd.prog W = .ok (.value (.pointer (some ⟨W.heap.size, 0, none⟩))) (W.alloc (.cells (setA 0) 33)) := by
  unfold execOp
  simp only [ho, setA_zero]
  go_simp
theorem run_store_set {o : Oper} {a : Act} (x y : Operand) (ho : o.op = .store 33 x y) {W : World} {g : Nat} (hx : a.eval x = .pointer (some ⟨g, 0, none⟩)) {S T : Nat} (hy : a.eval y = .agg (setA S)) {t : TypeId} (hg : Blk W g (setA T) t) :
    (execOp a.eval o).run Tryd.prog W = .ok .skip (W.setRow g (setA S)) := by
  unfold execOp
  simp only [ho, hx, hy, Instr.storeAt, Instr.sureAddr, Sem.run_bind, Sem.run_pure, Result.andThen_ok]
  rw [run_storeVar_row W g t 33 (setA T) (setA S) hg (info_setA S) (by rw [setA_size, setA_size]) (setA_one S)]
  rfl
end Go.Proofs.YtckmihjekgbcmaaDoor
