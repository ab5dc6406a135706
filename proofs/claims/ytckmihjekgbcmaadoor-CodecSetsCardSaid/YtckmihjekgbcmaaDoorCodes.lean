/- Operations on words and bytes, with numbers told as natural ones: shifts, conversions, bits; and a number's bytes (seven bits each). -/
import Derived.Test.YtckmihjekgbcmaaDoorWords
import Derived.Test.YtckmihjekgbcmaaDoorFresh
namespace Go.Proofs.YtckmihjekgbcmaaDoor
open Go.RowKit Go.WideShapes Go.ChangeShapes

theorem wrap_u8 (m : Int) : IntKind.u8.wrap m = m % 256 := by
  simp only [IntKind.wrap, IntKind.bits, IntKind.signed]; simp
theorem wrap_u64z (m : Int) : IntKind.u64.wrap m = m % 18446744073709551616 := by
  simp only [IntKind.wrap, IntKind.bits, IntKind.signed]; simp
theorem bv8 (m : Nat) (h : m < 256) : (BitVec.ofInt IntKind.u8.bits (m : Int)).toNat = m := by
  simp [IntKind.bits]
  omega
section
variable {P : Program} {o : Oper} {a : Act} (x y : Operand) {t t' : TypeId} {m n : Nat}
/-! conversions between kinds of whole numbers -/
theorem run_conv_i64_u64 {z z' : Int} (ho : o.op = .convert t t' x) (ht : P.underlying t = some (.int .i64)) (ht' : P.underlying t' = some (.int .u64)) (hx : a.eval x = .int .i64 z) (hz : IntKind.u64.wrap z = z') (W : World) : (execOp a.eval o).run P W = .ok (.value (.int .u64 z')) W := by
  subst hz
  unfold execOp; simp only [ho, hx]
  simp [convert, run_underlying ht, run_underlying ht', Conv.intToInt]
theorem run_conv_u64_i64 {z z' : Int} (ho : o.op = .convert t t' x) (ht : P.underlying t = some (.int .u64)) (ht' : P.underlying t' = some (.int .i64)) (hx : a.eval x = .int .u64 z) (hz : IntKind.i64.wrap z = z') (W : World) : (execOp a.eval o).run P W = .ok (.value (.int .i64 z')) W := by
  subst hz
  unfold execOp; simp only [ho, hx]
  simp [convert, run_underlying ht, run_underlying ht', Conv.intToInt]
theorem run_conv_u64_u8 {z z' : Int} (ho : o.op = .convert t t' x) (ht : P.underlying t = some (.int .u64)) (ht' : P.underlying t' = some (.int .u8)) (hx : a.eval x = .int .u64 z) (hz : IntKind.u8.wrap z = z') (W : World) : (execOp a.eval o).run P W = .ok (.value (.int .u8 z')) W := by
  subst hz
  unfold execOp; simp only [ho, hx]
  simp [convert, run_underlying ht, run_underlying ht', Conv.intToInt]
theorem run_conv_u8_u64 {z z' : Int} (ho : o.op = .convert t t' x) (ht : P.underlying t = some (.int .u8)) (ht' : P.underlying t' = some (.int .u64)) (hx : a.eval x = .int .u8 z) (hz : IntKind.u64.wrap z = z') (W : World) : (execOp a.eval o).run P W = .ok (.value (.int .u64 z')) W := by
  subst hz
  unfold execOp; simp only [ho, hx]
  simp [convert, run_underlying ht, run_underlying ht', Conv.intToInt]
theorem run_shlW (ho : o.op = .binOp .shl t x y t') {k : IntKind} (hx : a.eval x = .int .u64 (m : Int)) (hy : a.eval y = .int k (n : Int)) (hn : n ≤ 64) {r : Nat} (hr : m * 2 ^ n % 18446744073709551616 = r) (W : World) : (execOp a.eval o).run P W = .ok (.value (.int .u64 (r : Int))) W := by
  have e : IntKind.u64.wrap ((m : Int) * 2 ^ n) = (r : Int) := by
    rw [wrap_u64z, ← hr, Int.natCast_emod, Int.natCast_mul, Int.natCast_pow]
    rfl
  have hb : binOp .shl t (.int .u64 (m : Int)) (.int k (n : Int)) = pure (.int .u64 (r : Int)) := by
    simp only [binOp, Op.shift]
    rw [if_neg (by omega), Int.toNat_natCast, show min n IntKind.u64.bits = n from Nat.min_eq_left hn]
    simp only [e]
  unfold execOp; simp only [ho, hx, hy, hb]
  simp [eqGuard]
theorem run_shrZ (ho : o.op = .binOp .shr t x y t') {k : IntKind} {z z' : Int} (hx : a.eval x = .int .i64 z) (hy : a.eval y = .int k (n : Int)) (hn : n ≤ 64) (hz : z.fdiv (2 ^ n) = z') (W : World) : (execOp a.eval o).run P W = .ok (.value (.int .i64 z')) W := by
  have hb : binOp .shr t (.int .i64 z) (.int k (n : Int)) = pure (.int .i64 z') := by
    simp only [binOp, Op.shift]
    rw [if_neg (by omega), Int.toNat_natCast, show min n IntKind.i64.bits = n from Nat.min_eq_left hn]
    simp only [hz]
  unfold execOp; simp only [ho, hx, hy, hb]
  simp [eqGuard]
theorem run_or8 (ho : o.op = .binOp .or t x y t') (hx : a.eval x = .int .u8 (m : Int)) (hy : a.eval y = .int .u8 (n : Int)) (hm : m < 256) (hn : n < 256) {r : Nat} (hr : m ||| n = r) (W : World) : (execOp a.eval o).run P W = .ok (.value (.int .u8 (r : Int))) W := by
  have e : IntKind.u8.wrap ((BitVec.ofInt IntKind.u8.bits (m : Int) ||| BitVec.ofInt IntKind.u8.bits (n : Int)).toNat : Int) = (r : Int) := by
    have hlt : m ||| n < 2 ^ 8 := Nat.or_lt_two_pow hm hn
    rw [BitVec.toNat_or, bv8 m hm, bv8 n hn, wrap_u8, hr]
    omega
  have hb : binOp .or t (.int .u8 (m : Int)) (.int .u8 (n : Int)) = pure (.int .u8 (r : Int)) := by
    simp only [binOp, Op.intBits]
    rw [e, if_neg (fun h => h rfl)]
  unfold execOp; simp only [ho, hx, hy, hb]
  simp [eqGuard]
theorem run_and8 (ho : o.op = .binOp .and t x y t') (hx : a.eval x = .int .u8 (m : Int)) (hy : a.eval y = .int .u8 (n : Int)) (hm : m < 256) (hn : n < 256) {r : Nat} (hr : m &&& n = r) (W : World) : (execOp a.eval o).run P W = .ok (.value (.int .u8 (r : Int))) W := by
  have e : IntKind.u8.wrap ((BitVec.ofInt IntKind.u8.bits (m : Int) &&& BitVec.ofInt IntKind.u8.bits (n : Int)).toNat : Int) = (r : Int) := by
    have hlt : m &&& n ≤ m := Nat.and_le_left
    rw [BitVec.toNat_and, bv8 m hm, bv8 n hn, wrap_u8, hr]
    omega
  have hb : binOp .and t (.int .u8 (m : Int)) (.int .u8 (n : Int)) = pure (.int .u8 (r : Int)) := by
    simp only [binOp, Op.intBits]
    rw [e, if_neg (fun h => h rfl)]
  unfold execOp; simp only [ho, hx, hy, hb]
  simp [eqGuard]
theorem run_negZ (ho : o.op = .unOp .neg t x) {z z' : Int} (hx : a.eval x = .int .i64 z) (hz : IntKind.i64.wrap (0 - z) = z') (W : World) : (execOp a.eval o).run P W = .ok (.value (.int .i64 z')) W := by
  subst hz
  unfold execOp; simp only [ho, hx]
  simp [Op.unary, Op.intArith]
/-- '^' of two numbers of the kind of int, through their patterns. -/
theorem run_xorZ (ho : o.op = .binOp .xor t x y t') {u v z : Int} (hx : a.eval x = .int .i64 u) (hy : a.eval y = .int .i64 v) (hz : IntKind.i64.wrap ((BitVec.ofInt IntKind.i64.bits u ^^^ BitVec.ofInt IntKind.i64.bits v).toNat : Int) = z) (W : World) : (execOp a.eval o).run P W = .ok (.value (.int .i64 z)) W := by
  have hb : binOp .xor t (.int .i64 u) (.int .i64 v) = pure (.int .i64 z) := by
    simp only [binOp, Op.intBits]
    rw [hz, if_neg (fun h => h rfl)]
  unfold execOp; simp only [ho, hx, hy, hb]
  simp [eqGuard]
end

/-! ### a number's bytes -/
/-- What a number stands for. -/
def zig (n : Int) : Nat := if 0 ≤ n then (2 * n).toNat else (-2 * n - 1).toNat
def zag (u : Nat) : Int := if u % 2 = 0 then (u / 2 : Nat) else -(u / 2 : Nat) - 1
theorem zag_zig (n : Int) : zag (zig n) = n := by unfold zag zig; split <;> split <;> omega
theorem zig_zag (u : Nat) : zig (zag u) = u := by unfold zag zig; split <;> split <;> omega
theorem zig_lt {n : Int} (h : -9223372036854775808 ≤ n ∧ n ≤ 9223372036854775807) : zig n < 2 ^ 64 := by unfold zig; split <;> omega
/-- The bytes of a natural number: seven bits each, the last one without the mark. -/
def vb (u : Nat) : List UInt8 := if h : u < 128 then [UInt8.ofNat u] else UInt8.ofNat (u % 128 + 128) :: vb (u / 128)
termination_by u
decreasing_by omega
theorem vb_low {u : Nat} (h : u < 128) : vb u = [UInt8.ofNat u] := by rw [vb, dif_pos h]
theorem vb_high {u : Nat} (h : 128 ≤ u) : vb u = UInt8.ofNat (u % 128 + 128) :: vb (u / 128) := by rw [vb, dif_neg (by omega)]
theorem ofNat_toNat {m : Nat} (h : m < 256) : (UInt8.ofNat m).toNat = m := by simp; omega
/-- ones below 2^64: what is left of it. -/
theorem xor_ones {m : Nat} (h : m < 2 ^ 64) : m ^^^ 18446744073709551615 = 18446744073709551615 - m := by
  apply Nat.eq_of_testBit_eq
  intro i
  rw [Nat.testBit_xor, show (18446744073709551615 : Nat) = 2 ^ 64 - 1 from rfl, Nat.testBit_two_pow_sub_one, show 2 ^ 64 - 1 - m = 2 ^ 64 - (m + 1) by omega, Nat.testBit_two_pow_sub_succ h]
  by_cases hi : i < 64
  · simp [hi]
  · have : m.testBit i = false := Nat.testBit_lt_two_pow (Nat.lt_of_lt_of_le h (Nat.pow_le_pow_right (by omega) (by omega)))
    simp [hi, this]
set_option maxRecDepth 100000 in
theorem or_mark {m : Nat} (h : m < 256) : m ||| 128 = m % 128 + 128 := by
  have key : ∀ k, k < 256 → k ||| 128 = k % 128 + 128 := by decide
  exact key m h
set_option maxRecDepth 100000 in
theorem and_low {m : Nat} (h : m < 256) : m &&& 127 = m % 128 := by
  have key : ∀ k, k < 256 → k &&& 127 = k % 128 := by decide
  exact key m h
end Go.Proofs.YtckmihjekgbcmaaDoor
