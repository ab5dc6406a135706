/- What single operations on whole numbers, Bools, texts and slices yield: at the operation. -/
import Derived.Test.YtkebpmcgmmhifaaStep
import Derived.Test.YtkebpmcgmmhifaaStr
import Derived.IntWalk
namespace Go.Proofs.Ytkebpmcgmmhifaa
open Go.RowKit

section
variable {P : Program} {o : Oper} {a : Act} (x y : Operand) {t t' : TypeId} {k : IntKind} {m n : Int}

theorem run_add (ho : o.op = .binOp .add t x y t') (hx : a.eval x = .int k m) (hy : a.eval y = .int k n) (W : World) : (execOp a.eval o).run P W = .ok (.value (.int k (k.wrap (m + n)))) W := by
  unfold execOp; simp only [ho, hx, hy]; simp [go_sem, eqGuard]
theorem run_sub (ho : o.op = .binOp .sub t x y t') (hx : a.eval x = .int k m) (hy : a.eval y = .int k n) (W : World) : (execOp a.eval o).run P W = .ok (.value (.int k (k.wrap (m - n)))) W := by
  unfold execOp; simp only [ho, hx, hy]; simp [go_sem, eqGuard]
theorem run_mul (ho : o.op = .binOp .mul t x y t') (hx : a.eval x = .int k m) (hy : a.eval y = .int k n) (W : World) : (execOp a.eval o).run P W = .ok (.value (.int k (k.wrap (m * n)))) W := by
  unfold execOp; simp only [ho, hx, hy]; simp [go_sem, eqGuard]
theorem run_add_in (ho : o.op = .binOp .add t x y t') (hx : a.eval x = .int .i64 m) (hy : a.eval y = .int .i64 n) (h : -9223372036854775808 ≤ m + n ∧ m + n ≤ 9223372036854775807) (W : World) : (execOp a.eval o).run P W = .ok (.value (.int .i64 (m + n))) W := by
  rw [run_add x y ho hx hy W, IntWalk.i64_in _ (by omega)]
theorem run_sub_in (ho : o.op = .binOp .sub t x y t') (hx : a.eval x = .int .i64 m) (hy : a.eval y = .int .i64 n) (h : -9223372036854775808 ≤ m - n ∧ m - n ≤ 9223372036854775807) (W : World) : (execOp a.eval o).run P W = .ok (.value (.int .i64 (m - n))) W := by
  rw [run_sub x y ho hx hy W, IntWalk.i64_in _ (by omega)]
theorem run_mul_in (ho : o.op = .binOp .mul t x y t') (hx : a.eval x = .int .i64 m) (hy : a.eval y = .int .i64 n) (h : -9223372036854775808 ≤ m * n ∧ m * n ≤ 9223372036854775807) (W : World) : (execOp a.eval o).run P W = .ok (.value (.int .i64 (m * n))) W := by
  rw [run_mul x y ho hx hy W, IntWalk.i64_in _ (by omega)]
theorem run_lss (ho : o.op = .binOp .lss t x y t') (hx : a.eval x = .int k m) (hy : a.eval y = .int k n) (W : World) : (execOp a.eval o).run P W = .ok (.value (.bool (decide (m < n)))) W := by
  unfold execOp; simp only [ho, hx, hy]; simp [go_sem, eqGuard]
theorem run_leq (ho : o.op = .binOp .leq t x y t') (hx : a.eval x = .int k m) (hy : a.eval y = .int k n) (W : World) : (execOp a.eval o).run P W = .ok (.value (.bool (decide (m ≤ n)))) W := by
  unfold execOp; simp only [ho, hx, hy]; simp [go_sem, eqGuard]
theorem run_gtr (ho : o.op = .binOp .gtr t x y t') (hx : a.eval x = .int k m) (hy : a.eval y = .int k n) (W : World) : (execOp a.eval o).run P W = .ok (.value (.bool (decide (n < m)))) W := by
  unfold execOp; simp only [ho, hx, hy]; simp [go_sem, eqGuard]
theorem run_geq (ho : o.op = .binOp .geq t x y t') (hx : a.eval x = .int k m) (hy : a.eval y = .int k n) (W : World) : (execOp a.eval o).run P W = .ok (.value (.bool (decide (n ≤ m)))) W := by
  unfold execOp; simp only [ho, hx, hy]; simp [go_sem, eqGuard]
theorem int_beq (m n : Int) : (m == n) = decide (m = n) := by rw [Bool.eq_iff_iff, beq_iff_eq, decide_eq_true_iff]
theorem run_eql_int (ho : o.op = .binOp .eql t x y t') (hx : a.eval x = .int k m) (hy : a.eval y = .int k n) (W : World) : (execOp a.eval o).run P W = .ok (.value (.bool (decide (m = n)))) W := by
  unfold execOp; simp only [ho, hx, hy]; simp [eqGuard, binOp, Op.intCmp, int_beq]
theorem run_neq_int (ho : o.op = .binOp .neq t x y t') (hx : a.eval x = .int k m) (hy : a.eval y = .int k n) (W : World) : (execOp a.eval o).run P W = .ok (.value (.bool (!decide (m = n)))) W := by
  unfold execOp; simp only [ho, hx, hy]; simp [eqGuard, binOp, Op.intCmp, bne, int_beq]
theorem run_eql_int_t (ho : o.op = .binOp .eql t x y t') (hx : a.eval x = .int k m) (hy : a.eval y = .int k n) (h : m = n) (W : World) : (execOp a.eval o).run P W = .ok (.value (.bool true)) W := by
  rw [run_eql_int x y ho hx hy W, decide_eq_true h]
theorem run_eql_int_f (ho : o.op = .binOp .eql t x y t') (hx : a.eval x = .int k m) (hy : a.eval y = .int k n) (h : m ≠ n) (W : World) : (execOp a.eval o).run P W = .ok (.value (.bool false)) W := by
  rw [run_eql_int x y ho hx hy W, decide_eq_false h]
theorem run_neq_int_t (ho : o.op = .binOp .neq t x y t') (hx : a.eval x = .int k m) (hy : a.eval y = .int k n) (h : m = n) (W : World) : (execOp a.eval o).run P W = .ok (.value (.bool false)) W := by
  rw [run_neq_int x y ho hx hy W, decide_eq_true h]; rfl
theorem run_neq_int_f (ho : o.op = .binOp .neq t x y t') (hx : a.eval x = .int k m) (hy : a.eval y = .int k n) (h : m ≠ n) (W : World) : (execOp a.eval o).run P W = .ok (.value (.bool true)) W := by
  rw [run_neq_int x y ho hx hy W, decide_eq_false h]; rfl
theorem run_not (ho : o.op = .unOp .not t x) {b : Bool} (hx : a.eval x = .bool b) (W : World) : (execOp a.eval o).run P W = .ok (.value (.bool (!b))) W := by
  unfold execOp; simp only [ho, hx]; simp [go_sem]
theorem run_len (ho : o.op = .call { callee := .builtin .len, args := #[x], argTypes := #[t] }) (ht : ∃ e, P.underlying t = some (.slice e)) {A : Option Addr} {l c : Nat} (hx : a.eval x = .slice A l c) (W : World) : (execOp a.eval o).run P W = .ok (.value (.int .i64 l)) W := by
  obtain ⟨e, ht⟩ := ht
  have he : P.underlying t = some (.slice (P.elem t)) := by rw [ht]; simp [Program.elem, ht]
  unfold execOp; simp only [ho]; generalize a.eval = ρ at *; have hl := fun w' => run_len_slice (w := w') t o.type A l c he
  simp [go_sem, resolve, hx, hl]
theorem run_len_text (ho : o.op = .call { callee := .builtin .len, args := #[x], argTypes := #[t] }) (ht : P.underlying t = some .string) {l : List UInt8} (hx : a.eval x = .string (str l)) (W : World) : (execOp a.eval o).run P W = .ok (.value (.int .i64 l.length)) W := by
  unfold execOp; simp only [ho]; generalize a.eval = ρ at *; simp [go_sem, resolve, hx, ht, str_size]
theorem run_min2 (ho : o.op = .call { callee := .builtin .min, args := #[x, y], argTypes := #[t, t'] }) (hx : a.eval x = .int k m) (hy : a.eval y = .int k n) (W : World) : (execOp a.eval o).run P W = .ok (.value (.int k (min m n))) W := by
  unfold execOp; simp only [ho]; generalize a.eval = ρ at *; simp [go_sem, resolve, hx, hy]
theorem run_max2 (ho : o.op = .call { callee := .builtin .max, args := #[x, y], argTypes := #[t, t'] }) (hx : a.eval x = .int k m) (hy : a.eval y = .int k n) (W : World) : (execOp a.eval o).run P W = .ok (.value (.int k (max m n))) W := by
  unfold execOp; simp only [ho]; generalize a.eval = ρ at *; simp [go_sem, resolve, hx, hy]
theorem addr_zero (a : Addr) : a.add 0 = a := by unfold Addr.add; simp
/-- 'xs[:m]'. -/
theorem run_cut (ho : o.op = .slice t x none (some y) none) {e : TypeId} (ht : P.underlying t = some (.slice e)) (hs : ∃ i, P.info? e = some i) {A : Option Addr} {l c : Nat} (hx : a.eval x = .slice A l c) (hy : a.eval y = .int k m) (h : 0 ≤ m ∧ m ≤ c) (W : World) :
    (execOp a.eval o).run P W = .ok (.value (.slice A m.toNat c)) W := by
  have hel : P.elem t = e := by simp [Program.elem, ht]
  have he : P.underlying t = some (.slice (P.elem t)) := by rw [hel]; exact ht
  obtain ⟨h0, h1⟩ := h
  obtain ⟨i, hi⟩ := hs
  have r1 := run_sliceAt_slice (P := P) W t (.slice A l c) none (some (.int k m)) none he
  have r2 := run_slice_h (P := P) W t A l c he k m h0 h1
  unfold execOp; simp only [ho]; generalize a.eval = ρ at *
  simp only [Option.map_none, Option.map_some, hx, hy, Sem.run_bind, r1, r2, hel, sizeOf, typeInfo]
  simp [hi, sliced]
  cases A with
  | none => simp
  | some ad => simp [addr_zero]
theorem run_indexAddr (ho : o.op = .indexAddr t x y) {e : TypeId} {sz : Nat} (ht : P.underlying t = some (.slice e)) (hs : ∃ i, P.info? e = some i ∧ i.size = sz) {b off l c : Nat} (hx : a.eval x = .slice (some ⟨b, off, none⟩) l c) (hy : a.eval y = .int k m) (h : 0 ≤ m ∧ m < l) (W : World) :
    (execOp a.eval o).run P W = .ok (.value (.pointer (some ⟨b, off + m.toNat * sz, none⟩))) W := by
  obtain ⟨i, hi, rfl⟩ := hs
  obtain ⟨h0, h1⟩ := h
  unfold execOp; simp only [ho, hx, hy]
  simp [Instr.indexAt, asIntOf, run_underlying ht, h0, h1, sizeOf, typeInfo, hi, add_none]
theorem run_indexAddrN (ho : o.op = .indexAddr t x y) {e : TypeId} {sz : Nat} (ht : P.underlying t = some (.slice e)) (hs : ∃ i, P.info? e = some i ∧ i.size = sz) {b off l c i : Nat} (hx : a.eval x = .slice (some ⟨b, off, none⟩) l c) (hy : a.eval y = .int k (i : Int)) (h : i < l) (W : World) :
    (execOp a.eval o).run P W = .ok (.value (.pointer (some ⟨b, off + i * sz, none⟩))) W := by
  have := run_indexAddr x y ho ht hs hx hy ⟨by omega, by omega⟩ W
  rwa [Int.toNat_natCast] at this
theorem run_cut_take (ho : o.op = .slice t x none (some y) none) {e : TypeId} (ht : P.underlying t = some (.slice e)) {sz : Nat} (hs : ∃ i, P.info? e = some i ∧ i.size = sz) {α : Type} {xs : List α} {A : Option Addr} {c : Nat} (hx : a.eval x = .slice A xs.length c) {N : Int} (n : Nat) (hN : N = (n : Int)) (hy : a.eval y = .int k (min (xs.length : Int) N)) (h : xs.length ≤ c) (W : World) :
    (execOp a.eval o).run P W = .ok (.value (.slice A (xs.take n).length c)) W := by
  obtain ⟨i, hi, _⟩ := hs
  subst hN
  have := run_cut x y ho ht ⟨i, hi⟩ hx hy ⟨by omega, by omega⟩ W
  rwa [show (min (xs.length : Int) (n : Int)).toNat = (xs.take n).length from by rw [List.length_take]; omega] at this
theorem run_load1 (ho : o.op = .load t x) {d : TypeDesc} (ht : P.underlying t = some d) (hd : (match d with | .struct _ | .array _ _ => false | _ => true) = true) (hs : ∃ i, P.info? t = some i ∧ i.size = 1) {ad : Addr} (hx : a.eval x = .pointer (some ad)) {W : World} {v : Value} (hc : W.cell? ad = some v) :
    (execOp a.eval o).run P W = .ok (.value v) W := by
  obtain ⟨i, hi, h1⟩ := hs
  unfold execOp; simp only [ho, hx]
  have hagg : (isAgg t).run P W = .ok false W := by
    unfold isAgg
    rw [Sem.run_bind, run_underlying ht W]
    cases d <;> simp_all
  simp [Instr.loadAt, Instr.sureAddr, loadVar, Sem.run_bind, hagg, hc]
end
theorem Reads.takeI {w : World} {A : Option Addr} {k : IntKind} {xs : List Int} (h : Reads w A (xs.map (Value.int k))) (n : Nat) : Reads w A ((xs.take n).map (Value.int k)) := by rw [List.map_take]; exact h.take n
theorem SlT.sz {α : Type} {P : Program} {t e : TypeId} {E : Enc α} {bytes : Nat} (T : SlT P t e E bytes) : ∃ i, P.info? e = some i ∧ i.size = E.sz := by
  obtain ⟨i, z, h1, _, h3, _⟩ := T.info
  exact ⟨i, h1, h3⟩
end Go.Proofs.Ytkebpmcgmmhifaa
