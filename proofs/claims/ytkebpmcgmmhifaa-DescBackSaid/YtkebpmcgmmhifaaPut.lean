/- What cpuset's Put and Drop do. -/
import Derived.Test.YtkebpmcgmmhifaaHas
namespace Go.Proofs.Ytkebpmcgmmhifaa
open Go.RowKit Go.WideShapes Go.ChangeShapes

theorem wd_put (S n : Nat) (h : n < 1024) : wd (put S n) (n / 64) = wd S (n / 64) ||| 2 ^ (n % 64) := by
  refine Nat.eq_of_testBit_eq fun j => ?_
  rw [testBit_wd, Nat.testBit_or, testBit_wd, testBit_put, Nat.testBit_two_pow]
  by_cases hj : j < 64
  · simp only [hj, decide_true, Bool.true_and]
    congr 1
    rw [decide_eq_decide]
    omega
  · simp only [hj, decide_false, Bool.false_and, Bool.false_or]
    rw [eq_comm, decide_eq_false_iff_not]
    omega
theorem wd_put_other (S n j : Nat) (hj : j ≠ n / 64) : wd (put S n) j = wd S j := by
  refine Nat.eq_of_testBit_eq fun i => ?_
  rw [testBit_wd, testBit_wd, testBit_put]
  by_cases hi : i < 64
  · rw [show decide (((64 * j + i : Nat) : Int) = (n : Int) ∧ (n : Int) < 1024) = false from by simp; omega, Bool.or_false]
  · simp [hi]
theorem wd_drop (S n : Nat) (h : n < 1024) : wd (drop S n) (n / 64) = wd S (n / 64) ^^^ (wd S (n / 64) &&& 2 ^ (n % 64)) := by
  refine Nat.eq_of_testBit_eq fun j => ?_
  rw [testBit_wd, Nat.testBit_xor, Nat.testBit_and, testBit_wd, testBit_drop, Nat.testBit_two_pow]
  by_cases hj : j < 64
  · simp only [hj, decide_true, Bool.true_and]
    rw [show decide (((64 * (n / 64) + j : Nat) : Int) = (n : Int) ∧ (n : Int) < 1024) = decide (n % 64 = j) from by rw [decide_eq_decide]; omega]
    cases S.testBit (64 * (n / 64) + j) <;> cases decide (n % 64 = j) <;> rfl
  · simp [hj]
theorem wd_drop_other (S n j : Nat) (hj : j ≠ n / 64) : wd (drop S n) j = wd S j := by
  refine Nat.eq_of_testBit_eq fun i => ?_
  rw [testBit_wd, testBit_wd, testBit_drop]
  by_cases hi : i < 64
  · rw [show decide (((64 * j + i : Nat) : Int) = (n : Int) ∧ (n : Int) < 1024) = false from by simp; omega, Bool.not_false, Bool.and_true]
  · simp [hi]
theorem pow64 {k : Nat} (h : k < 64) : 2 ^ k < 2 ^ 64 := Nat.pow_lt_pow_right (by decide) h

theorem put_out {S : Nat} {n : Int} (h : ¬ (0 ≤ n ∧ n < 1024)) : put S n = S := by rw [put, if_neg h]
theorem drop_out {S : Nat} {n : Int} (h : ¬ (0 ≤ n ∧ n < 1024)) : drop S n = S := by rw [drop, if_neg h]

/-! ### whole sets read from a variable, stored into one, handed back -/
theorem setA_one (S : Nat) : (setA S).all (·.oneCell') = true := by
  rw [Array.all_eq_true_iff_forall_mem]
  intro v hv
  simp [setA, setC] at hv
  obtain ⟨i, _, rfl⟩ := hv
  rfl
theorem bl_setRow {w W : World} (h : Below w.heap.size w W) (g : Nat) (hg : w.heap.size ≤ g) (cs : Array Value) : Below w.heap.size w (W.setRow g cs) :=
  h.trans ⟨rfl, rfl, rfl, by simp, fun k hk => setRow_other W g k cs (by omega)⟩

end Go.Proofs.Ytkebpmcgmmhifaa
