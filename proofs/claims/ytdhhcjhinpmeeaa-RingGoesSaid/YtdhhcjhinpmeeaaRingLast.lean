/- What came last: the list that a row has that things go through. -/
import Derived.Test.YtdhhcjhinpmeeaaRingInts
import Derived.Test.YtdhhcjhinpmeeaaRingAlike
namespace Go.Proofs.Ytdhhcjhinpmeeaa
open Go.RowKit Go.WideShapes Go.ChangeShapes

def lst (l : List Int) (N k : Nat) : List Int := (l.take k).drop (k - N)
theorem lst_zero (l : List Int) (N : Nat) : lst l N 0 = [] := by simp [lst]
theorem lst_len {l : List Int} {N k : Nat} (hk : k ≤ l.length) : (lst l N k).length = k - (k - N) := by unfold lst; rw [List.length_drop, List.length_take, Nat.min_eq_left hk]
theorem lst_low {l : List Int} {N k : Nat} (hN : k < N) (hk : k < l.length) : lst l N k ++ [nth l k] = lst l N (k + 1) := by
  unfold lst
  rw [show k - N = 0 by omega, show k + 1 - N = 0 by omega, List.drop_zero, List.drop_zero, take_nth hk]
theorem lst_full {l : List Int} {N k : Nat} (hN1 : 1 ≤ N) (hN : N ≤ k) (hk : k < l.length) : wo (lst l N k) 0 ++ [nth l k] = lst l N (k + 1) := by
  unfold lst
  rw [wo_zero, List.drop_drop, take_nth hk, List.drop_append_of_le_length (by rw [List.length_take]; omega), show k - N + 1 = k + 1 - N by omega]
theorem nth_lst {l : List Int} {N k : Nat} {j : Nat} (hk : k ≤ l.length) (hj : j < k - (k - N)) : nth (lst l N k) j = nth l (k - N + j) := by
  unfold lst
  rw [nth_drop, nth_take _ _ _ (by omega)]
theorem got_zero (zs : List Int) : got 0 zs = zs := by rw [show (0 : Int) = ((0 : Nat) : Int) from rfl, got_pos, List.drop_zero]
theorem len_take200 (xs : List Int) : (xs.take 200).length ≤ 200 := by rw [List.length_take]; omega
theorem in30 {r b c : Nat} : r ∈ [r, b, c] := by simp
end Go.Proofs.Ytdhhcjhinpmeeaa
