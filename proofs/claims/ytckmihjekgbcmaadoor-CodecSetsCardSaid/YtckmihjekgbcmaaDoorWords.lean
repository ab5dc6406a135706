/- Operations on words (whole numbers of 64 bits without a sign), told as natural numbers: at the operation. -/
import Derived.Test.YtckmihjekgbcmaaDoorInts
namespace Go.Proofs.YtckmihjekgbcmaaDoor
open Go.RowKit

theorem wrap_u64 (m : Nat) (h : m < 2 ^ 64) : IntKind.u64.wrap (m : Int) = (m : Int) := by
  simp only [IntKind.wrap, IntKind.bits, IntKind.signed]
  simp
  omega
theorem bv_of (m : Nat) (h : m < 2 ^ 64) : (BitVec.ofInt IntKind.u64.bits (m : Int)).toNat = m := by
  simp [IntKind.bits]
  omega
section
variable {P : Program} {o : Oper} {a : Act} (x y : Operand) {t t' : TypeId} {m n : Nat}
theorem run_shrW (ho : o.op = .binOp .shr t x y t') {k : IntKind} (hx : a.eval x = .int .u64 (m : Int)) (hy : a.eval y = .int k (n : Int)) (h : n ≤ 64) (W : World) : (execOp a.eval o).run P W = .ok (.value (.int .u64 ((m >>> n : Nat) : Int))) W := by
  have e : ((m : Int).fdiv (2 ^ n)) = ((m >>> n : Nat) : Int) := by
    rw [Nat.shiftRight_eq_div_pow, Int.fdiv_eq_ediv_of_nonneg _ (by exact_mod_cast Nat.zero_le _)]
    push_cast
    rfl
  have hb : binOp .shr t (.int .u64 (m : Int)) (.int k (n : Int)) = pure (.int .u64 ((m >>> n : Nat) : Int)) := by
    simp only [binOp, Op.shift]
    rw [if_neg (by omega), Int.toNat_natCast, show min n IntKind.u64.bits = n from Nat.min_eq_left h]
    simp only [e]
  unfold execOp; simp only [ho, hx, hy, hb]
  simp [eqGuard]
theorem run_andW (ho : o.op = .binOp .and t x y t') (hx : a.eval x = .int .u64 (m : Int)) (hy : a.eval y = .int .u64 (n : Int)) (hm : m < 2 ^ 64) (hn : n < 2 ^ 64) (W : World) : (execOp a.eval o).run P W = .ok (.value (.int .u64 ((m &&& n : Nat) : Int))) W := by
  have e : IntKind.u64.wrap ((BitVec.ofInt IntKind.u64.bits (m : Int) &&& BitVec.ofInt IntKind.u64.bits (n : Int)).toNat : Int) = ((m &&& n : Nat) : Int) := by
    rw [BitVec.toNat_and, bv_of m hm, bv_of n hn, wrap_u64 _ (Nat.lt_of_le_of_lt Nat.and_le_left hm)]
  have hb : binOp .and t (.int .u64 (m : Int)) (.int .u64 (n : Int)) = pure (.int .u64 ((m &&& n : Nat) : Int)) := by
    simp only [binOp, Op.intBits]
    rw [e, if_neg (fun h => h rfl)]
  unfold execOp; simp only [ho, hx, hy, hb]
  simp [eqGuard]
theorem run_orW (ho : o.op = .binOp .or t x y t') (hx : a.eval x = .int .u64 (m : Int)) (hy : a.eval y = .int .u64 (n : Int)) (hm : m < 2 ^ 64) (hn : n < 2 ^ 64) (W : World) : (execOp a.eval o).run P W = .ok (.value (.int .u64 ((m ||| n : Nat) : Int))) W := by
  have e : IntKind.u64.wrap ((BitVec.ofInt IntKind.u64.bits (m : Int) ||| BitVec.ofInt IntKind.u64.bits (n : Int)).toNat : Int) = ((m ||| n : Nat) : Int) := by
    rw [BitVec.toNat_or, bv_of m hm, bv_of n hn, wrap_u64 _ (Nat.or_lt_two_pow hm hn)]
  have hb : binOp .or t (.int .u64 (m : Int)) (.int .u64 (n : Int)) = pure (.int .u64 ((m ||| n : Nat) : Int)) := by
    simp only [binOp, Op.intBits]
    rw [e, if_neg (fun h => h rfl)]
  unfold execOp; simp only [ho, hx, hy, hb]
  simp [eqGuard]
theorem run_xorW (ho : o.op = .binOp .xor t x y t') (hx : a.eval x = .int .u64 (m : Int)) (hy : a.eval y = .int .u64 (n : Int)) (hm : m < 2 ^ 64) (hn : n < 2 ^ 64) (W : World) : (execOp a.eval o).run P W = .ok (.value (.int .u64 ((m ^^^ n : Nat) : Int))) W := by
  have e : IntKind.u64.wrap ((BitVec.ofInt IntKind.u64.bits (m : Int) ^^^ BitVec.ofInt IntKind.u64.bits (n : Int)).toNat : Int) = ((m ^^^ n : Nat) : Int) := by
    rw [BitVec.toNat_xor, bv_of m hm, bv_of n hn, wrap_u64 _ (Nat.xor_lt_two_pow hm hn)]
  have hb : binOp .xor t (.int .u64 (m : Int)) (.int .u64 (n : Int)) = pure (.int .u64 ((m ^^^ n : Nat) : Int)) := by
    simp only [binOp, Op.intBits]
    rw [e, if_neg (fun h => h rfl)]
  unfold execOp; simp only [ho, hx, hy, hb]
  simp [eqGuard]
theorem run_addW (ho : o.op = .binOp .add t x y t') (hx : a.eval x = .int .u64 (m : Int)) (hy : a.eval y = .int .u64 (n : Int)) (h : m + n < 2 ^ 64) (W : World) : (execOp a.eval o).run P W = .ok (.value (.int .u64 ((m + n : Nat) : Int))) W := by
  rw [run_add x y ho hx hy W, ← Int.natCast_add, wrap_u64 _ h]
theorem wrap_i64 (m : Nat) (h : m < 2 ^ 63) : IntKind.i64.wrap (m : Int) = (m : Int) := IntWalk.i64_in _ (by omega)
theorem bv_ofI (m : Nat) (h : m < 2 ^ 63) : (BitVec.ofInt IntKind.i64.bits (m : Int)).toNat = m := by
  simp [IntKind.bits]
  omega
theorem run_andI (ho : o.op = .binOp .and t x y t') (hx : a.eval x = .int .i64 (m : Int)) (hy : a.eval y = .int .i64 (n : Int)) (hm : m < 2 ^ 63) (hn : n < 2 ^ 63) (W : World) : (execOp a.eval o).run P W = .ok (.value (.int .i64 ((m &&& n : Nat) : Int))) W := by
  have e : IntKind.i64.wrap ((BitVec.ofInt IntKind.i64.bits (m : Int) &&& BitVec.ofInt IntKind.i64.bits (n : Int)).toNat : Int) = ((m &&& n : Nat) : Int) := by
    rw [BitVec.toNat_and, bv_ofI m hm, bv_ofI n hn, wrap_i64 _ (Nat.lt_of_le_of_lt Nat.and_le_left hm)]
  have hb : binOp .and t (.int .i64 (m : Int)) (.int .i64 (n : Int)) = pure (.int .i64 ((m &&& n : Nat) : Int)) := by
    simp only [binOp, Op.intBits]
    rw [e, if_neg (fun h => h rfl)]
  unfold execOp; simp only [ho, hx, hy, hb]
  simp [eqGuard]
theorem run_convWI (ho : o.op = .convert t t' x) (ht : P.underlying t = some (.int .u64)) (ht' : P.underlying t' = some (.int .i64)) (hx : a.eval x = .int .u64 (m : Int)) (h : m < 2 ^ 63) (W : World) : (execOp a.eval o).run P W = .ok (.value (.int .i64 (m : Int))) W := by
  unfold execOp; simp only [ho, hx]
  simp [convert, run_underlying ht, run_underlying ht', Conv.intToInt, wrap_i64 m h]
end
end Go.Proofs.YtckmihjekgbcmaaDoor
