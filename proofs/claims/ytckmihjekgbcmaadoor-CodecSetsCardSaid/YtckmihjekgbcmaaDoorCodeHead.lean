/- Rows that calls hand back inside a region that draws its order; the text of bytes; the document's examples' values. -/
import Derived.Test.YtckmihjekgbcmaaDoorCodePutSet
import Derived.Shelf.Bytes.SlSmallAll
namespace Go.Proofs.YtckmihjekgbcmaaDoor
open Go.RowKit Go.WideShapes Go.ChangeShapes

theorem run_convB {o : Oper} {a : Act} {W : World} {base : Nat} {e' : TypeId} {v : Value} {l : List UInt8} (x : Operand) (ho : o.op = .convert 22 9 x) (hx : a.eval x = v) (h : OwnR W base e' eByte v l) : (execOp a.eval o).run Tryd.prog W = .ok (.value (.string (str l))) W := by
  unfold execOp; simp only [ho, hx]
  have e := h.str 22 9 5 Tryd.underlying22 Tryd.underlying5 Tryd.underlying9
  simp [e]
theorem run_convR {o : Oper} {a : Act} {W : World} {A : Option Addr} {l : List UInt8} {cap : Nat} (x : Operand) (ho : o.op = .convert 22 9 x) (hx : a.eval x = .slice A l.length cap) (h : Reads W A (eByte.all l)) : (execOp a.eval o).run Tryd.prog W = .ok (.value (.string (str l))) W := by
  have e : (convert 22 9 (.slice A l.length cap)).run Tryd.prog W = .ok (.string (str l)) W := by
    cases l with
    | nil => exact run_convert_bytes_zero W _ 5 Tryd.underlying22 Tryd.underlying5 A cap _ Tryd.underlying9
    | cons c l =>
      obtain ⟨b, off, rfl, _⟩ := h.at_ (by rw [eByte_all]; simp)
      exact run_bytes_str _ _ 5 Tryd.underlying22 Tryd.underlying5 Tryd.underlying9 h cap
  unfold execOp; simp only [ho, hx]
  simp [e]
theorem Reads.takeB {w : World} {A : Option Addr} {xs : List UInt8} (h : Reads w A (eByte.all xs)) (n : Nat) : Reads w A (eByte.all (xs.take n)) := by
  rw [eByte_all] at h ⊢
  rw [List.map_take]; exact h.take n
theorem make_own {base : Nat} {e' : TypeId} {v : Value} {xs : List Int} {W : World} (h : OwnR W base e' (eInt .i64) v xs) (hl : xs.length ≤ 1000000) : Calls Tryd.prog 28 #[v] W fun e w' => e = .returned (.agg (setA (mk xs))) ∧ Below W.heap.size W w' := by
  obtain ⟨A, c, rfl, h1, h2, h3, R⟩ := h.reads
  rw [eInt_all] at R
  exact make_calls A xs c W R (by omega)
theorem pl1 : ([] : List UInt8) ++ vb (zig 64) = [128, 1] := by
  rw [show zig 64 = 128 from rfl, vb_high (by omega), vb_low (by omega)]; rfl
theorem pl2 : ([] : List UInt8) ++ vb (zig (-1)) = [1] := by
  rw [show zig (-1) = 1 from rfl, vb_low (by omega)]; rfl
theorem pl3 : ([] : List UInt8) ++ setB (mk ([0, 1, 2, 3, 8] : List Int)) = ([4, 0, 6, 6, 0] : List UInt8) := by
  have h1 : mk [0, 1, 2, 3, 8] = 271 := by kernel_rfl
  have h2 : rowsL 271 = [0, 3, 3, 0] := by kernel_rfl
  rw [h1, setB, h2]
  simp only [vbs, List.flatMap_cons, List.flatMap_nil]
  rw [show zig ((([0, 3, 3, 0] : List Int).length / 2 : Nat) : Int) = 4 from rfl, show zig 0 = 0 from rfl, show zig 3 = 6 from rfl, vb_low (by omega), vb_low (by omega), vb_low (by omega)]
  rfl
end Go.Proofs.YtckmihjekgbcmaaDoor
