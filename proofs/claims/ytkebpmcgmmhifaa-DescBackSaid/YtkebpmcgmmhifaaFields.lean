/- Pointers to structs and to single cells: the check, the load and the store, at the operation. -/
import Derived.Test.YtkebpmcgmmhifaaInts
namespace Go.Proofs.Ytkebpmcgmmhifaa
open Go.RowKit

section
variable {P : Program} {o : Oper} {a : Act} (x y : Operand) {t : TypeId}
theorem run_nilCheck (ho : o.op = .nilCheck x) {ad : Addr} (hx : a.eval x = .pointer (some ad)) (W : World) : (execOp a.eval o).run P W = .ok (.value (.pointer (some ad))) W := by
  unfold execOp; simp only [ho, hx]; rfl
theorem run_store1 (ho : o.op = .store t x y) (hs : ∃ i, P.info? t = some i ∧ i.size = 1) {W : World} {g i : Nat} {cs : Array Value} {t' : TypeId} (hB : Blk W g cs t') (hi : i < cs.size) (hx : a.eval x = .pointer (some ⟨g, i, none⟩)) {v : Value} (hy : a.eval y = v) (hv : v.oneCell' = true) (hc : v.cells = #[v]) :
    (execOp a.eval o).run P W = .ok .skip (W.setCell ⟨g, i, none⟩ v) := by
  obtain ⟨z, hz, h1⟩ := hs
  have h2 : W.cell? ⟨g, i, none⟩ = some cs[i] := by rw [hB.cell, Array.getElem?_eq_getElem hi]
  have h3 := hB.free i
  have h4 := run_store P W ⟨g, i, none⟩ v .plain hv
  rw [h2] at h4
  simp only [h3] at h4
  unfold execOp
  simp only [ho, hx, hy, Instr.storeAt, Instr.sureAddr, Sem.run_bind, Sem.run_pure, Result.andThen_ok]
  have ha : (⟨g, i, none⟩ : Addr).add 0 = ⟨g, i, none⟩ := addr_zero _
  simp [storeVar, sizeOf, typeInfo, hz, h1, hc, storeCells, ha, h4]
theorem run_fieldAddr {f : Nat} (ho : o.op = .fieldAddr t x f) {fs : Array Field} (ht : P.underlying t = some (.struct fs)) {fl : Field} (hf : fs[f]? = some fl) (hs : ∃ i, P.info? fl.type = some i ∧ i.size ≠ 0) {g k : Nat} (hx : a.eval x = .pointer (some ⟨g, k, none⟩)) (W : World) :
    (execOp a.eval o).run P W = .ok (.value (.pointer (some ⟨g, k + fl.offset, none⟩))) W := by
  obtain ⟨z, hz, h1⟩ := hs
  unfold execOp
  simp [ho, hx, Instr.fieldAt, Sem.run_bind, run_underlying ht W, hf, Instr.sureAddr, fieldPlace, sizeOf, typeInfo, hz, h1, Addr.add]
end
end Go.Proofs.Ytkebpmcgmmhifaa
