/- How many are in a set: plain laws. -/
import Derived.Test.YthgamlklpfkkhaaDoorOnes
import Derived.Test.YthgamlklpfkkhaaDoorSets
namespace Go.Proofs.YthgamlklpfkkhaaDoor
open Go.RowKit

/-- How many of the first words' bits are set. -/
def cards (S : Nat) : Nat → Nat
  | 0 => 0
  | k + 1 => cards S k + pop (wd S k)
def card (S : Nat) : Nat := cards S 16
/-- How many of the numbers below n are in the set. -/
def cnt (S : Nat) : Nat → Nat
  | 0 => 0
  | n + 1 => cnt S n + (S.testBit n).toNat
theorem sumL_append (l m : List Nat) : sumL (l ++ m) = sumL l + sumL m := by
  induction l with
  | nil => simp [sumL]
  | cons a l ih => simp only [List.cons_append, sumL, List.foldr_cons] at *; rw [ih]; omega
theorem pop_upto (S k : Nat) : ∀ j, j ≤ 64 → sumL ((List.range j).map fun i => ((wd S k).testBit i).toNat) + cnt S (64 * k) = cnt S (64 * k + j)
  | 0, _ => by simp [sumL]
  | j + 1, h => by
    have ih := pop_upto S k j (by omega)
    rw [List.range_succ, List.map_append, sumL_append, show 64 * k + (j + 1) = (64 * k + j) + 1 from by omega, cnt, ← ih]
    have : ((wd S k).testBit j) = S.testBit (64 * k + j) := by rw [testBit_wd]; simp; omega
    simp only [List.map_cons, List.map_nil, sumL, List.foldr_cons, List.foldr_nil, this]
    omega
theorem cards_cnt (S : Nat) : ∀ k, cards S k = cnt S (64 * k)
  | 0 => rfl
  | k + 1 => by
    rw [cards, cards_cnt S k, show 64 * (k + 1) = 64 * k + 64 from by omega, ← pop_upto S k 64 (by omega), pop, bitL]
    omega
theorem cnt_le (S : Nat) : ∀ n, cnt S n ≤ n
  | 0 => by simp [cnt]
  | n + 1 => by have := cnt_le S n; have : (S.testBit n).toNat ≤ 1 := Bool.toNat_le _; simp only [cnt]; omega
theorem pop_le (x : Nat) : pop x ≤ 64 := by
  have : ∀ j, sumL ((List.range j).map fun i => (x.testBit i).toNat) ≤ j := by
    intro j
    induction j with
    | zero => simp [sumL]
    | succ j ih =>
      rw [List.range_succ, List.map_append, sumL_append]
      have : (x.testBit j).toNat ≤ 1 := Bool.toNat_le _
      simp only [List.map_cons, List.map_nil, sumL, List.foldr_cons, List.foldr_nil] at *
      omega
  exact this 64
theorem cards_le (S : Nat) : ∀ k, cards S k ≤ 64 * k
  | 0 => by simp [cards]
  | k + 1 => by have := cards_le S k; have := pop_le (wd S k); simp only [cards]; omega
theorem card_cnt (S : Nat) : card S = cnt S 1024 := cards_cnt S 16
theorem cnt_mem (S : Nat) : ∀ n, (mem S n).length = cnt S n
  | 0 => rfl
  | n + 1 => by
    rw [mem_succ, List.length_append, cnt_mem S n, cnt]
    cases S.testBit n <;> simp
theorem card_mem (S : Nat) : card S = (mem S 1024).length := by rw [card_cnt, cnt_mem]
/-- Of both and of one there are as many as of each. -/
theorem cnt_and_or (S T : Nat) : ∀ n, cnt (S &&& T) n + cnt (S ||| T) n = cnt S n + cnt T n
  | 0 => rfl
  | n + 1 => by
    have := cnt_and_or S T n
    simp only [cnt, Nat.testBit_and, Nat.testBit_or]
    cases S.testBit n <;> cases T.testBit n <;> simp <;> omega
theorem card_and_or (S T : Nat) : card (S &&& T) + card (S ||| T) = card S + card T := by simp only [card_cnt]; exact cnt_and_or S T 1024
end Go.Proofs.YthgamlklpfkkhaaDoor
