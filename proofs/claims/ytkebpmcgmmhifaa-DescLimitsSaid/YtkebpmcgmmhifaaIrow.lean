/- Rows of numbers of any kind that are written in place (as Mem's ints). -/
import Derived.Test.YtkebpmcgmmhifaaMem
import Derived.Test.YtkebpmcgmmhifaaStr
namespace Go.Proofs.Ytkebpmcgmmhifaa
open Go.RowKit Go.WideShapes Go.ChangeShapes

@[irreducible] def irow (k : IntKind) (l : List Int) : Array Value := (l.map (Value.int k)).toArray
theorem irow_size (k : IntKind) (l : List Int) : (irow k l).size = l.length := by unfold irow; simp
theorem irow_get {k : IntKind} (l : List Int) (i : Nat) (h : i < l.length) : (irow k l)[i]? = some (.int k (nth l i)) := by unfold irow nth; simp [h]
theorem irow_set {k : IntKind} (l : List Int) (i : Nat) (x : Int) : (irow k l).setIfInBounds i (.int k x) = irow k (l.set i x) := by unfold irow; simp [List.map_set]
theorem irow_lt {k : IntKind} {l : List Int} {i : Nat} (h : i < l.length) : i < (irow k l).size := by rw [irow_size]; exact h
theorem run_makeRow {P : Program} {o : Oper} {a : Act} {t e : TypeId} {k : IntKind} {bytes : Nat} (x : Operand) (ho : o.op = .makeSlice t x x) (ht : P.underlying t = some (.slice e)) (hi : (P.info? e).map (fun i => (i.zero, i.size, i.bytes)) = some (some (.int k 0), 1, bytes)) {X : Int} {N : Nat} (hx : a.eval x = .int .i64 X) (hX : X = (N : Int)) (hN : N ≤ 16777216) (hb : bytes ≤ 8) (hb0 : 0 < bytes) (W : World) :
    (execOp a.eval o).run P W = .ok (.value (.slice (some ⟨W.heap.size, 0, none⟩) N N)) (W.alloc (.cells (irow k (List.replicate N 0)) e)) := by
  subst hX
  obtain ⟨i, h1, h2, h3, h4⟩ := info_parts hi
  have hle : N * bytes ≤ 16777216 * 8 := Nat.mul_le_mul hN hb
  have hr := run_makeSlice (P := P) W t e i (.int k 0) ht h1 h2 .i64 .i64 (N : Int) (N : Int) (by omega) (Int.le_refl _) (by rw [h3]; omega) (by rw [h4, ← Int.natCast_mul, Nat.mul_comm]; omega) (by omega)
  have hm : madeCells (Value.int k 0).cells (((N : Int)).toNat * i.size) = irow k (List.replicate N 0) := by
    rw [h3]
    unfold irow
    apply Array.ext'
    simp [madeCells, Value.cells, Nat.mod_one, List.map_const']
  rw [hm] at hr
  unfold execOp; simp only [ho, hx, Sem.run_bind, hr]
  simp
/-- A row of bytes, read as a text's. -/
theorem irow_bytes {w : World} {g : Nat} {e : TypeId} {xs : List UInt8} (h : Blk w g (irow .u8 (xs.map fun c => (c.toNat : Int))) e) : Reads w (some ⟨g, 0, none⟩) (eByte.all xs) := by
  intro j u hj
  rw [eByte_all] at hj
  refine ⟨g, 0, rfl, ?_⟩
  rw [Nat.zero_add, h.cell]
  rw [List.getElem?_map] at hj
  cases hx : xs[j]? with
  | none => rw [hx] at hj; cases hj
  | some c =>
    rw [hx] at hj
    injection hj with hj
    subst hj
    unfold irow
    simp [hx]
end Go.Proofs.Ytkebpmcgmmhifaa
