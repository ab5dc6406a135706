/- What single operations on texts yield: joined, cut. -/
import Derived.Test.YtkebpmcgmmhifaaInts
namespace Go.Proofs.Ytkebpmcgmmhifaa
open Go.RowKit

section
variable {P : Program} {o : Oper} {a : Act} (x y : Operand) {t t' : TypeId} {k : IntKind} {m n : Int}

theorem run_add_text (ho : o.op = .binOp .add t x y t') {l m : List UInt8} (hx : a.eval x = .string (str l)) (hy : a.eval y = .string (str m)) (h : l.length + m.length ≤ 9223372036854775807) (W : World) : (execOp a.eval o).run P W = .ok (.value (.string (str (l ++ m)))) W := by
  have e : str l ++ str m = str (l ++ m) := by
    apply ByteArray.ext
    rw [ByteArray.data_append]
    simp [str]
  have hb : Op.stringOp .add (str l) (str m) = pure (.string (str (l ++ m))) := by
    unfold Op.stringOp
    simp only
    rw [if_neg (by rw [str_size, str_size, show IntKind.i64.max = 9223372036854775807 from rfl]; omega), e]
  unfold execOp; simp only [ho, hx, hy]
  simp [eqGuard, binOp, hb]
theorem run_cut_text (ho : o.op = .slice t x none (some y) none) (ht : P.underlying t = some .string) {l : List UInt8} (hx : a.eval x = .string (str l)) {N : Int} (n : Nat) (hN : N = (n : Int)) (hy : a.eval y = .int k (min (l.length : Int) N)) (W : World) :
    (execOp a.eval o).run P W = .ok (.value (.string (str (l.take n)))) W := by
  subst hN
  have h0 : (0 : Int) ≤ min (l.length : Int) (n : Int) := by omega
  have h1 : min (l.length : Int) (n : Int) ≤ ((str l).size : Int) := by rw [str_size]; omega
  have e : (str l).extract 0 (min (l.length : Int) (n : Int)).toNat = str (l.take n) := by
    apply ByteArray.ext
    rw [ByteArray.data_extract]
    apply Array.ext'
    rw [Array.toList_extract]
    simp only [str, List.extract_eq_take_drop, List.drop_zero, Nat.sub_zero]
    rw [show (min (l.length : Int) (n : Int)).toNat = min n l.length from by omega, List.take_eq_take_iff]
    omega
  unfold execOp; simp only [ho]; generalize a.eval = ρ at *
  have r2 := run_slice_string_h (P := P) W t (str l) ht k (min (l.length : Int) (n : Int)) h0 h1
  simp only [Option.map_none, Option.map_some, hx, hy, Sem.run_bind]
  rw [run_sliceAt_string W t _ _ _ _ ht, r2, e]
  rfl
end
end Go.Proofs.Ytkebpmcgmmhifaa
