/- What cpuset's And, Or and Minus do. -/
import Derived.Test.YtkebpmcgmmhifaaPut
import Derived.LoopTactic
namespace Go.Proofs.Ytkebpmcgmmhifaa
open Go.RowKit Go.WideShapes Go.ChangeShapes

/-- Sixteen cells out of sixteen words. -/
def wordsA (f : Nat → Nat) : Array Value := ((List.range 16).map fun j => Value.int .u64 (f j)).toArray
theorem wordsA_wd (S : Nat) : wordsA (wd S) = setA S := rfl
theorem wordsA_get (f : Nat → Nat) (i : Nat) (h : i < 16) : (wordsA f)[i]? = some (.int .u64 (f i)) := by simp [wordsA, h]
theorem wordsA_size (f : Nat → Nat) : (wordsA f).size = 16 := by simp [wordsA]
theorem wordsA_set {f g : Nat → Nat} {i v : Nat} (hv : g i = v) (h : ∀ j, j < 16 → j ≠ i → g j = f j) : (wordsA f).setIfInBounds i (.int .u64 v) = wordsA g := by
  apply Array.ext
  · simp [wordsA]
  · intro j h1 h2
    have hj : j < 16 := by simpa [wordsA_size] using h2
    rw [Array.getElem_setIfInBounds (by simpa [wordsA_size] using hj)]
    split
    · rename_i e; subst e; simp [wordsA, hv]
    · rename_i e; simp [wordsA, h j hj (fun q => e q.symm)]
theorem wordsA_eq {f g : Nat → Nat} (h : ∀ j, j < 16 → f j = g j) : wordsA f = wordsA g := by
  unfold wordsA
  congr 1
  exact List.map_congr_left fun j hj => by rw [h j (by simpa using hj)]

/-- The first of two sets without the second. -/
def minus (S T : Nat) : Nat := S ^^^ (S &&& T)
theorem testBit_minus (S T n : Nat) : (minus S T).testBit n = (S.testBit n && !T.testBit n) := by
  simp only [minus, Nat.testBit_xor, Nat.testBit_and]
  cases S.testBit n <;> cases T.testBit n <;> rfl
theorem wd_and (S T j : Nat) : wd (S &&& T) j = wd S j &&& wd T j := by
  refine Nat.eq_of_testBit_eq fun i => ?_
  simp only [testBit_wd, Nat.testBit_and]
  cases decide (i < 64) <;> simp
theorem wd_or (S T j : Nat) : wd (S ||| T) j = wd S j ||| wd T j := by
  refine Nat.eq_of_testBit_eq fun i => ?_
  simp only [testBit_wd, Nat.testBit_or]
  cases decide (i < 64) <;> simp
theorem wd_minus (S T j : Nat) : wd (minus S T) j = wd S j ^^^ (wd S j &&& wd T j) := by
  refine Nat.eq_of_testBit_eq fun i => ?_
  simp only [testBit_wd, Nat.testBit_xor, Nat.testBit_and, testBit_minus]
  cases decide (i < 64) <;> cases S.testBit (64 * j + i) <;> cases T.testBit (64 * j + i) <;> rfl
theorem and_sm {S : Nat} (T : Nat) (hS : Sm S) : Sm (S &&& T) := fun n hn => by rw [Nat.testBit_and, hS n hn, Bool.false_and]
theorem or_sm {S T : Nat} (hS : Sm S) (hT : Sm T) : Sm (S ||| T) := fun n hn => by rw [Nat.testBit_or, hS n hn, hT n hn]; rfl
theorem minus_sm {S : Nat} (T : Nat) (hS : Sm S) : Sm (minus S T) := fun n hn => by rw [testBit_minus, hS n hn, Bool.false_and]

/-- The words while the loop goes: those ahead of i are new. -/
def mixW (op : Nat → Nat → Nat) (S T i j : Nat) : Nat := if j < i then op (wd S j) (wd T j) else wd S j

theorem heap_alloc3_a (w : World) (A B C : Obj) : (((w.alloc A).alloc B).alloc C).heap[w.heap.size]? = some A := by
  rw [heap_alloc_old _ _ (by simp; omega)]; exact heap_alloc2_old w A B
theorem heap_alloc3_b (w : World) (A B C : Obj) : (((w.alloc A).alloc B).alloc C).heap[w.heap.size + 1]? = some B := by
  rw [heap_alloc_old _ _ (by simp)]; exact heap_alloc2_new w A B
theorem heap_alloc3_c (w : World) (A B C : Obj) : (((w.alloc A).alloc B).alloc C).heap[w.heap.size + 2]? = some C := by
  have := heap_alloc2_new (w.alloc A) B C; simpa using this

theorem mixW_zero (op : Nat → Nat → Nat) (S T : Nat) : setA S = wordsA (mixW op S T 0) := wordsA_eq fun j _ => by simp [mixW]
theorem mixW_all (op : Nat → Nat → Nat) (S T R : Nat) (h : ∀ j, wd R j = op (wd S j) (wd T j)) : wordsA (mixW op S T 16) = setA R := wordsA_eq fun j hj => by simp [mixW, hj, h]
theorem mixW_step (op : Nat → Nat → Nat) (S T i : Nat) : (wordsA (mixW op S T i)).setIfInBounds i (.int .u64 (op (wd S i) (wd T i) : Nat)) = wordsA (mixW op S T (i + 1)) :=
  wordsA_set (by simp [mixW]) fun j _ hj => by unfold mixW; split <;> split <;> first | rfl | omega


end Go.Proofs.Ytkebpmcgmmhifaa
