/- Those of a row that are not a number: plain laws. -/
import Derived.Test.YthgamlklpfkkhaaDoorMake
namespace Go.Proofs.YthgamlklpfkkhaaDoor
open Go.RowKit

def flt (n : Int) (l : List Int) : List Int := l.filter fun x => !decide (x = n)
theorem flt_len (n : Int) (l : List Int) : (flt n l).length ≤ l.length := List.length_filter_le _ _
theorem take_one (l : List Int) (k : Nat) (h : k < l.length) : l.take (k + 1) = l.take k ++ [nth l k] := by
  rw [List.take_succ_eq_append_getElem h, nth, List.getD_eq_getElem?_getD, List.getElem?_eq_getElem h]; rfl
theorem flt_ne {n : Int} {l : List Int} {k : Nat} (h : k < l.length) (hne : ¬ nth l k = n) : flt n (l.take (k + 1)) = flt n (l.take k) ++ [nth l k] := by
  rw [take_one l k h, flt, List.filter_append]
  simp [flt, hne]
theorem flt_eq {n : Int} {l : List Int} {k : Nat} (h : k < l.length) (he : nth l k = n) : flt n (l.take (k + 1)) = flt n (l.take k) := by
  rw [take_one l k h, flt, List.filter_append]
  simp [flt, he]
theorem mem_flt (n m : Int) (l : List Int) : m ∈ flt n l ↔ m ∈ l ∧ m ≠ n := by simp [flt]
theorem mk_flt {n : Int} {l : List Int} {k : Nat} (h : ¬ ((k : Int) < (l.length : Int))) : drop (mk l) n = mk (flt n (l.take k)) := by
  rw [List.take_of_length_le (by omega)]
  refine Nat.eq_of_testBit_eq fun m => ?_
  rw [testBit_drop, testBit_mk, testBit_mk]
  by_cases hm : m < 1024
  · simp only [hm, mem_flt]
    by_cases hn : (m : Int) = n
    · simp [hn]; omega
    · simp [hn]
  · simp [hm]
end Go.Proofs.YthgamlklpfkkhaaDoor
