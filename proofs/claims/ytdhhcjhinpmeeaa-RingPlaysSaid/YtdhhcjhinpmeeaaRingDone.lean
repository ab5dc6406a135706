/- What doing one thing to a row leaves; small laws. -/
import Derived.Test.YtdhhcjhinpmeeaaRingLives
import Derived.Test.YtdhhcjhinpmeeaaRingRefs
namespace Go.Proofs.Ytdhhcjhinpmeeaa
open Go.RowKit Go.WideShapes Go.ChangeShapes

theorem OwnR.offLt {α : Type} {w w' : World} {e : TypeId} {E : Enc α} {v : Value} {xs : List α} {g : Nat} (h : OwnR w' w.heap.size e E v xs) (hg : g < w.heap.size) : Off v g := fun k => by have := (h.lt g k).1; omega
theorem OwnR.rdI {w : World} {base : Nat} {e : TypeId} {A : Option Addr} {c : Nat} {xs : List Int} (h : OwnR w base e (eInt .i64) (.slice A xs.length c) xs) : Reads w A (xs.map (Value.int .i64)) := by
  obtain ⟨A', c', hv, _, _, _, R⟩ := h.reads
  injection hv with h1 h2 h3
  subst h1
  rw [eInt_all] at R
  exact R
theorem run_remC {P : Program} {o : Oper} {a : Act} (x y : Operand) {t t' : TypeId} {k : IntKind} (ho : o.op = .binOp .rem t x y t') {m n c : Nat} (hx : a.eval x = .int k (m : Int)) (hy : a.eval y = .int k (n : Int)) (hn : 0 < n) (hc : m % n = c) (W : World) : (execOp a.eval o).run P W = .ok (.value (.int k (c : Int))) W := by
  subst hc
  unfold execOp; simp only [ho, hx, hy]
  have h0 : (n : Int) ≠ 0 := by omega
  simp [go_sem, eqGuard, h0]
  split
  · omega
  · simp [Int.tmod_eq_emod_of_nonneg (a := (m : Int)) (b := (n : Int)) (by omega)]
theorem ins_end (xs : List Int) (x : Int) : ins xs xs.length x = xs ++ [x] := by simp [ins]
theorem ins_zero (xs : List Int) (x : Int) : ins xs 0 x = x :: xs := by simp [ins]
/-- What doing one thing leaves: the row, and the list that it should have. -/
def Done (w w' : World) (r b N B : Nat) (V : Value) (u : Value) : Prop := ∃ v' xs', u = .tuple #[v', .bool true] ∧ Rg w' r b N xs' ∧ OwnR w' B 3 (eInt .i64) v' xs' ∧ (v'.ownBlock = V.ownBlock ∨ ∀ k, v'.ownBlock = some k → w.heap.size ≤ k) ∧ Fr [r, b] w w'
end Go.Proofs.Ytdhhcjhinpmeeaa
