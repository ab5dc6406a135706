/- A row of the call's own, read where it lies. -/
import Derived.Test.YtkebpmcgmmhifaaRowStep
import Derived.Test.YtkebpmcgmmhifaaCuts
namespace Go.Proofs.Ytkebpmcgmmhifaa
open Go.RowKit Go.WideShapes Go.ChangeShapes
theorem OwnR.rdE {α : Type} {w : World} {base : Nat} {e : TypeId} {E : Enc α} {A : Option Addr} {c : Nat} {xs : List α} (h : OwnR w base e E (.slice A xs.length c) xs) : Reads w A (E.all xs) := by
  obtain ⟨A', c', hv, _, _, _, R⟩ := h.reads
  injection hv with h1 h2 h3
  subst h1
  exact R
theorem OwnR.rdN {w : World} {base : Nat} {e : TypeId} {A : Option Addr} {c : Nat} {xs : List Int} (h : OwnR w base e (eInt .i64) (.slice A xs.length c) xs) : Reads w A (xs.map (Value.int .i64)) := by
  have R := h.rdE
  rw [eInt_all] at R
  exact R
theorem OwnR.cell1 {α : Type} {w : World} {base : Nat} {e : TypeId} {E : Enc α} {v : Value} {xs : List α} (h : OwnR w base e E v xs) : v.oneCell' = true ∧ v.cells = #[v] := by
  obtain ⟨A, c, rfl, _⟩ := h.reads
  exact ⟨rfl, rfl⟩
theorem of1 {v : Value} {s : Nat} (h : Off v s) : ∀ j, j ∈ [s] → Off v j := fun j hj => by
  rw [List.mem_singleton] at hj; subst hj; exact h
/-- xs[:p], p a natural number; elements of any size. -/
theorem run_cutq {P : Program} {o : Oper} {a : Act} (x y : Operand) {t e : TypeId} (ho : o.op = .slice t x none (some y) none) (ht : P.underlying t = some (.slice e)) {s : Nat} (hs : ∃ i, P.info? e = some i ∧ i.size = s) {α : Type} {xs : List α} {A : Option Addr} {c p : Nat} {X : Int} (hx : a.eval x = .slice A xs.length c) (hy : a.eval y = .int .i64 X) (hX : X = (p : Int)) (hp : p ≤ xs.length) (hc : xs.length ≤ c) (W : World) :
    (execOp a.eval o).run P W = .ok (.value (.slice A (xs.take p).length c)) W := by
  subst hX
  obtain ⟨i, hi, _⟩ := hs
  have := run_cut x y ho ht ⟨i, hi⟩ hx hy ⟨by omega, by omega⟩ W
  rwa [show ((p : Nat) : Int).toNat = (xs.take p).length from by rw [List.length_take]; omega] at this
end Go.Proofs.Ytkebpmcgmmhifaa
