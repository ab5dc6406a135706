/- A set's rows of neighbours: how many numbers are left out ahead of each, and how many it has, less 1: plain laws. -/
import Derived.Test.YtckmihjekgbcmaaDoorCodeRefGet
import Derived.Test.YtckmihjekgbcmaaDoorMore
import Derived.Test.YtckmihjekgbcmaaDoorNext
namespace Go.Proofs.YtckmihjekgbcmaaDoor
open Go.RowKit Go.WideShapes Go.ChangeShapes

/-- How many numbers from n on are in the set, one behind the other (at most so many). -/
def runFrom (S : Nat) : Nat → Nat → Nat
  | 0, _ => 0
  | f + 1, n => if S.testBit n then runFrom S f (n + 1) + 1 else 0
/-- The next number from n on that is in the set (so many are looked at). -/
def nextFrom (S : Nat) : Nat → Nat → Option Nat
  | 0, _ => none
  | f + 1, n => if S.testBit n then some n else nextFrom S f (n + 1)
/-- The rows from n on, the last one having ended ahead of at. -/
def rowsFrom (S : Nat) : Nat → Nat → Nat → List Int
  | 0, _, _ => []
  | f + 1, n, at_ => match nextFrom S 1025 n with
    | none => []
    | some m => ((m : Int) - (at_ : Int)) :: ((runFrom S 1025 m : Int) - 1) :: rowsFrom S f (m + runFrom S 1025 m) (m + runFrom S 1025 m + 1)
def rowsL (S : Nat) : List Int := rowsFrom S 1025 0 0

theorem nextFrom_some {S : Nat} : ∀ {f n m : Nat}, nextFrom S f n = some m → n ≤ m ∧ m < n + f ∧ S.testBit m = true ∧ ∀ j, n ≤ j → j < m → S.testBit j = false
  | 0, n, m, h => by simp [nextFrom] at h
  | f + 1, n, m, h => by
    rw [nextFrom] at h
    split at h
    · injection h with h; subst h; exact ⟨Nat.le_refl _, by omega, by assumption, fun j h1 h2 => by omega⟩
    · obtain ⟨h1, h2, h3, h4⟩ := nextFrom_some h
      refine ⟨by omega, by omega, h3, fun j hj hm => ?_⟩
      by_cases e : j = n
      · subst e; simpa using ‹¬ S.testBit j = true›
      · exact h4 j (by omega) hm
theorem nextFrom_none {S : Nat} : ∀ {f n : Nat}, nextFrom S f n = none → ∀ j, n ≤ j → j < n + f → S.testBit j = false
  | 0, n, _, j, h1, h2 => by omega
  | f + 1, n, h, j, h1, h2 => by
    rw [nextFrom] at h
    split at h
    · cases h
    · by_cases e : j = n
      · subst e; simpa using ‹¬ S.testBit j = true›
      · exact nextFrom_none h j (by omega) (by omega)
theorem isNext_of {S n m : Nat} (h : nextFrom S 1025 n = some m) : IsNext S (n : Int) m := by
  obtain ⟨h1, _, h3, h4⟩ := nextFrom_some h
  exact ⟨by omega, h3, fun j hj hm => h4 j (by omega) hm⟩
theorem noNext_of {S n : Nat} (hS : Sm S) (h : nextFrom S 1025 n = none) : NoNext S (n : Int) := fun j hj => by
  rcases Nat.lt_or_ge j 1024 with h1 | h1
  · exact nextFrom_none h j (by omega) (by omega)
  · exact hS j h1
theorem runFrom_step {S : Nat} : ∀ {f n : Nat}, S.testBit n = true → 0 < f → runFrom S f n = runFrom S (f - 1) (n + 1) + 1
  | 0, _, _, h => absurd h (Nat.lt_irrefl _)
  | f + 1, n, h, _ => by rw [runFrom, if_pos h, Nat.add_sub_cancel]
theorem runFrom_stop {S f n : Nat} (h : S.testBit n = false) : runFrom S f n = 0 := by
  cases f with
  | zero => rfl
  | succ f => rw [runFrom, if_neg (by simp [h])]
/-- It doesn't matter how many more are looked at, once they reach beyond the set. -/
theorem runFrom_more {S : Nat} (hS : Sm S) : ∀ (f g n : Nat), 1024 ≤ n + f → 1024 ≤ n + g → runFrom S f n = runFrom S g n
  | 0, g, n, h1, _ => by rw [runFrom_stop (f := g) (hS n (by omega))]; rfl
  | f + 1, 0, n, _, h2 => by rw [runFrom_stop (hS n (by omega))]; rfl
  | f + 1, g + 1, n, h1, h2 => by
    rw [runFrom, runFrom]
    split
    · rw [runFrom_more hS f g (n + 1) (by omega) (by omega)]
    · rfl
theorem run_at {S : Nat} (hS : Sm S) {n : Nat} (h : S.testBit n = true) : runFrom S 1025 n = runFrom S 1025 (n + 1) + 1 := by
  rw [runFrom_step h (by omega), runFrom_more hS (1025 - 1) 1025 (n + 1) (by omega) (by omega)]
theorem run_le {S : Nat} (hS : Sm S) : ∀ (f n : Nat), n ≤ 1024 → n + runFrom S f n ≤ 1024
  | 0, n, h => h
  | f + 1, n, h => by
    rw [runFrom]
    split
    · have hb : n < 1024 := by
        rcases Nat.lt_or_ge n 1024 with h1 | h1
        · exact h1
        · have := hS n h1; simp_all
      have := run_le hS f (n + 1) (by omega)
      omega
    · exact h
/-- What Next answers of a set from a place on. -/
def NX (S m : Nat) (z : Int) (b : Bool) : Prop := (b = true ∧ ∃ k : Nat, z = k ∧ nextFrom S 1025 m = some k) ∨ (b = false ∧ nextFrom S 1025 m = none)
theorem NX.yes {S m : Nat} {z : Int} {b : Bool} (h : NX S m z b) (hb : b = true) : ∃ k : Nat, z = k ∧ nextFrom S 1025 m = some k := by
  rcases h with h | h
  · exact h.2
  · rw [h.1] at hb; cases hb
theorem NX.no {S m : Nat} {z : Int} {b : Bool} (h : NX S m z b) (hb : b = false) : nextFrom S 1025 m = none := by
  rcases h with h | h
  · rw [h.1] at hb; cases hb
  · exact h.2
theorem next_all (S m : Nat) (n : Int) (hn : n = (m : Int)) (hS : Sm S) (w : World) (hT : Tab w) : Calls Tryd.prog 37 #[.agg (setA S), .int .i64 n] w fun e w' => ∃ v, e = .returned v ∧ ∃ z b, v = .tuple #[.int .i64 z, .bool b] ∧ NX S m z b ∧ Below w.heap.size w w' := by
  subst hn
  cases h : nextFrom S 1025 m with
  | none => exact (next_no S (m : Int) w (noNext_of hS h)).mono fun e w' ⟨h1, h2⟩ => ⟨_, h1, _, _, rfl, .inr ⟨rfl, h⟩, h2⟩
  | some k => exact (next_yes S k (m : Int) w hS (isNext_of h) hT).mono fun e w' ⟨h1, h2⟩ => ⟨_, h1, _, _, rfl, .inl ⟨rfl, k, rfl, h⟩, h2⟩
theorem next_lt {S m k : Nat} (hS : Sm S) (h : nextFrom S 1025 m = some k) : m ≤ k ∧ k < 1024 ∧ S.testBit k = true := by
  obtain ⟨h1, _, h3, _⟩ := nextFrom_some h
  refine ⟨h1, ?_, h3⟩
  rcases Nat.lt_or_ge k 1024 with g | g
  · exact g
  · have := hS k g; rw [h3] at this; cases this
theorem rows_end {S f m p : Nat} (h : nextFrom S 1025 m = none) : rowsFrom S f m p = [] := by
  cases f with
  | zero => rfl
  | succ f => rw [rowsFrom, h]
theorem rows_go {S f m p k : Nat} (hS : Sm S) (h : nextFrom S 1025 m = some k) (hf : 1025 ≤ f + m) : 1025 ≤ f - 1 + (k + runFrom S 1025 k) ∧
    rowsFrom S f m p = ((k : Int) - (p : Int)) :: ((runFrom S 1025 k : Int) - 1) :: rowsFrom S (f - 1) (k + runFrom S 1025 k) (k + runFrom S 1025 k + 1) := by
  obtain ⟨h1, h2, h3⟩ := next_lt hS h
  have h4 := run_at hS h3
  refine ⟨by omega, ?_⟩
  cases f with
  | zero => omega
  | succ f => rw [rowsFrom, h]; rfl
theorem has_run {S q : Nat} (hS : Sm S) (h : has S ((q : Int) + 1) = true) : runFrom S 1025 (q + 1) = runFrom S 1025 (q + 1 + 1) + 1 := by
  rw [show (q : Int) + 1 = ((q + 1 : Nat) : Int) by omega, has_nat] at h
  exact run_at hS h
theorem has_norun {S q : Nat} (h : has S ((q : Int) + 1) = false) : runFrom S 1025 (q + 1) = 0 := by
  rw [show (q : Int) + 1 = ((q + 1 : Nat) : Int) by omega, has_nat] at h
  exact runFrom_stop h
end Go.Proofs.YtckmihjekgbcmaaDoor
