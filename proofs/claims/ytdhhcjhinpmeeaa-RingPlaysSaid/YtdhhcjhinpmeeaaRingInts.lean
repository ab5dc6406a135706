/- Rows of numbers that came in; lists that shrink at an end. -/
import Derived.Test.YtdhhcjhinpmeeaaRingLives
namespace Go.Proofs.Ytdhhcjhinpmeeaa
open Go.RowKit Go.WideShapes Go.ChangeShapes

theorem slInt : SlT Try.prog 22 3 (eInt .i64) 8 := slT_of Try.underlying22 (z := .int .i64 0) (by kernel_rfl) rfl Nat.one_pos (by omega)
theorem take_nth {l : List Int} {k : Nat} (h : k < l.length) : l.take (k + 1) = l.take k ++ [nth l k] := by
  rw [List.take_add_one, List.getElem?_eq_getElem h]
  simp [nth, h]
theorem wo_zero (l : List Int) : wo l 0 = l.drop 1 := by simp [wo]
theorem wo_drop (l : List Int) (i : Nat) : wo (l.drop i) 0 = l.drop (i + 1) := by rw [wo_zero, List.drop_drop]
theorem nth_dropz (l : List Int) (i : Nat) : nth (l.drop i) 0 = nth l i := by rw [nth_drop]; rfl
theorem cons_wo {l : List Int} (h : 0 < l.length) : nth l 0 :: wo l 0 = l := by
  cases l with
  | nil => simp at h
  | cons x l => simp [wo, nth]
theorem wo_take {l : List Int} {m : Nat} (h : m ≤ l.length) : wo (l.take m) ((l.take m).length - 1) = l.take (m - 1) := by
  unfold wo
  rw [List.length_take, Nat.min_eq_left h, List.take_take, Nat.min_eq_left (by omega), List.drop_eq_nil_of_le (by rw [List.length_take]; omega), List.append_nil]
theorem nth_takel {l : List Int} {m : Nat} (h0 : 0 < m) (h : m ≤ l.length) : nth (l.take m) ((l.take m).length - 1) = nth l (m - 1) := by
  rw [List.length_take, Nat.min_eq_left h, nth_take _ _ _ (by omega)]
theorem len_take100 (xs : List Int) : (xs.take 100).length ≤ 100 := by rw [List.length_take]; omega
end Go.Proofs.Ytdhhcjhinpmeeaa
