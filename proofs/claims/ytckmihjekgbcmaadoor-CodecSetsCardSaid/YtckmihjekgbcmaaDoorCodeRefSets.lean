/- The document's way through a set's numbers, one by one: plain laws. -/
import Derived.Test.YtckmihjekgbcmaaDoorCodeSets
import Derived.Test.YtckmihjekgbcmaaDoorCodeRefInt
import Derived.Test.YtckmihjekgbcmaaDoorOwnRd
namespace Go.Proofs.YtckmihjekgbcmaaDoor
open Go.RowKit Go.WideShapes Go.ChangeShapes

theorem nextFrom_more {S : Nat} (hS : Sm S) : ∀ (f g n : Nat), 1024 ≤ n + f → 1024 ≤ n + g → nextFrom S f n = nextFrom S g n := by
  intro f g n h1 h2
  cases h : nextFrom S g n with
  | none =>
    refine nextFrom_isnone fun j hj => ?_
    rcases Nat.lt_or_ge j 1024 with a | a
    · exact nextFrom_none h j hj (by omega)
    · exact hS j a
  | some m =>
    obtain ⟨a1, a2, a3, a4⟩ := nextFrom_some h
    have : m < 1024 := by
      rcases Nat.lt_or_ge m 1024 with g | g
      · exact g
      · have := hS m g; rw [a3] at this; cases this
    exact nextFrom_is a1 (by omega) a3 a4
theorem nextFrom_skip {S n : Nat} (hS : Sm S) (h : S.testBit n = false) : nextFrom S 1025 n = nextFrom S 1025 (n + 1) := by
  rw [nextFrom, if_neg (by simp [h])]
  rcases Nat.lt_or_ge n 1024 with a | a
  · exact nextFrom_more hS _ _ _ (by omega) (by omega)
  · rw [nextFrom_isnone fun j hj => hS j (by omega), nextFrom_isnone fun j hj => hS j (by omega)]
theorem rows_skip {S n p f : Nat} (hS : Sm S) (h : S.testBit n = false) : rowsFrom S f n p = rowsFrom S f (n + 1) p := by
  cases f with
  | zero => rfl
  | succ f => rw [rowsFrom, rowsFrom, nextFrom_skip hS h]
/-- A number that is not there, and no row before it. -/
theorem rs_skip {S n u f : Nat} {xs R : List Int} (hS : Sm S) (hb : S.testBit n = false) (h : xs ++ rowsFrom S f (n - 0) (n - 0 - u) = R) : xs ++ rowsFrom S f (n + 1 - 0) (n + 1 - 0 - (u + 1)) = R := by
  rw [Nat.sub_zero] at h ⊢
  rw [← rows_skip hS hb, show n + 1 - (u + 1) = n - u by omega]; exact h
theorem rs_in {S n r : Nat} (h : ∀ j, n - r ≤ j → j < n → S.testBit j = true) (hb : S.testBit n = true) : ∀ j, n + 1 - (r + 1) ≤ j → j < n + 1 → S.testBit j = true := fun j h1 h2 => by
  by_cases e : j = n
  · subst e; exact hb
  · exact h j (by omega) (by omega)
/-- A row has ended. -/
theorem rs_row {S n r u f : Nat} {xs R : List Int} (hS : Sm S) (hb : S.testBit n = false) (h : xs ++ rowsFrom S f (n - r) (n - r - u) = R) (hf : 1025 ≤ f + (n - r)) (hin : ∀ j, n - r ≤ j → j < n → S.testBit j = true) (hr : 0 < r) (hu : r + u ≤ n) :
    xs ++ ([(u : Int), (r : Int) - 1] : List Int) ++ rowsFrom S (f - 1) (n + 1 - 0) (n + 1 - 0 - 0) = R := by
  obtain ⟨m, rfl⟩ : ∃ m, n = m + r := ⟨n - r, by omega⟩
  rw [Nat.add_sub_cancel] at h hf hin
  have hm : S.testBit m = true := hin m (Nat.le_refl _) (by omega)
  have hm4 : m < 1024 := by
    rcases Nat.lt_or_ge m 1024 with g | g
    · exact g
    · have := hS m g; rw [hm] at this; cases this
  have hr4 : r < 1025 := by
    rcases Nat.lt_or_ge r 1025 with g | g
    · exact g
    · have h1 := hin 1024 (by omega) (by omega)
      have h2 := hS 1024 (by omega)
      rw [h1] at h2; cases h2
  have hn : nextFrom S 1025 m = some m := nextFrom_is (Nat.le_refl _) (by omega) hm fun j a b => by omega
  have hru : runFrom S 1025 m = r := runFrom_is (by omega) (fun j a b => hin j a b) hb
  obtain ⟨g1, g2⟩ := rows_go (p := m - u) hS hn hf
  rw [g2, hru, rows_skip hS hb] at h
  rw [← h, List.append_assoc, show ((m : Int) - ((m - u : Nat) : Int)) = (u : Int) by omega]
  rfl
end Go.Proofs.YtckmihjekgbcmaaDoor
