/- The first of a row from a number on: plain laws; and what Next, First, List hand back, by it. -/
import Derived.Test.YthgamlklpfkkhaaDoorLen
namespace Go.Proofs.YthgamlklpfkkhaaDoor
open Go.RowKit

def fge (f : Int) (l : List Int) : Int × Bool := ((l.find? fun x => decide (f ≤ x)).getD 0, (l.find? fun x => decide (f ≤ x)).isSome)
theorem fge_snoc (f : Int) (l : List Int) (x : Int) : fge f (l ++ [x]) = if (fge f l).2 = true then fge f l else if f ≤ x then (x, true) else fge f l := by
  rcases Option.eq_none_or_eq_some (l.find? fun x => decide (f ≤ x)) with h | ⟨y, h⟩
  · by_cases hx : f ≤ x <;> simp [fge, List.find?_append, h, hx]
  · simp [fge, List.find?_append, h]
theorem take_nth (l : List Int) (k : Nat) (h : k < l.length) : l.take (k + 1) = l.take k ++ [nth l k] := by
  rw [List.take_succ_eq_append_getElem h, nth, List.getD_eq_getElem?_getD, List.getElem?_eq_getElem h]; rfl
theorem fge_hit {f : Int} {l : List Int} {k : Nat} (hk : k < l.length) (h : f ≤ nth l k) (hb : (fge f (l.take k)).2 = false) : fge f (l.take (k + 1)) = (nth l k, true) := by
  rw [take_nth l k hk, fge_snoc, if_neg (by simp [hb]), if_pos h]
theorem fge_old {f : Int} {l : List Int} {k : Nat} (hk : k < l.length) (hb : (fge f (l.take k)).2 = true) : fge f (l.take (k + 1)) = fge f (l.take k) := by
  rw [take_nth l k hk, fge_snoc, if_pos hb]
theorem fge_skip {f : Int} {l : List Int} {k : Nat} (hk : k < l.length) (h : ¬ f ≤ nth l k) : fge f (l.take (k + 1)) = fge f (l.take k) := by
  rw [take_nth l k hk, fge_snoc, if_neg h]
  split <;> rfl

theorem fge_none {S : Nat} {n : Int} (h : NoNext S n) (K : Nat) : fge n (ints (mem S K)) = (0, false) := by
  have : (ints (mem S K)).find? (fun x => decide (n ≤ x)) = none := by
    rw [List.find?_eq_none]
    intro x hx
    simp only [ints, List.mem_map, mem, List.mem_filter] at hx
    obtain ⟨m, ⟨_, hm⟩, rfl⟩ := hx
    have := h m
    simp only [decide_eq_true_eq]
    intro hn
    rw [this (by omega)] at hm
    cases hm
  simp [fge, this]
theorem fge_next {S k : Nat} {n : Int} (h : IsNext S n k) : ∀ K, k < K → fge n (ints (mem S K)) = ((k : Int), true)
  | 0, hK => by omega
  | K + 1, hK => by
    obtain ⟨h1, h2, h3⟩ := h
    rw [mem_succ, ints, List.map_append]
    by_cases hk : k < K
    · have ih := fge_next (S := S) (n := n) ⟨h1, h2, h3⟩ K hk
      cases hb : S.testBit K with
      | true =>
        simp only [if_true, List.map_cons, List.map_nil]
        have := fge_snoc n (ints (mem S K)) (K : Int)
        rw [ih] at this
        simpa [ints] using this
      | false => simpa [ints] using ih
    · obtain rfl : k = K := by omega
      have hn : fge n (ints (mem S k)) = (0, false) := by
        have : (ints (mem S k)).find? (fun x => decide (n ≤ x)) = none := by
          rw [List.find?_eq_none]
          intro x hx
          simp only [ints, List.mem_map, mem, List.mem_filter, List.mem_range] at hx
          obtain ⟨m, ⟨hm1, hm⟩, rfl⟩ := hx
          simp only [decide_eq_true_eq]
          intro hle
          rw [h3 m hle (by omega)] at hm
          cases hm
        simp [fge, this]
      rw [if_pos (by assumption)]
      have := fge_snoc n (ints (mem S k)) (k : Int)
      rw [hn] at this
      simp only [Bool.false_eq_true, if_false] at this
      rw [if_pos (by assumption)] at this
      simpa [ints] using this
theorem nextRes_fge {S : Nat} {n m : Int} {b : Bool} (h : NextRes S n m b) : m = (fge n (ints (mem S 1024))).1 ∧ b = (fge n (ints (mem S 1024))).2 := by
  rcases h with ⟨rfl, k, rfl, hk, h⟩ | ⟨rfl, rfl, h⟩
  · have e := fge_next h 1024 hk
    exact ⟨by rw [e], by rw [e]⟩
  · have e := fge_none h 1024
    exact ⟨by rw [e], by rw [e]⟩
theorem fge_zero (l : List Nat) : fge 0 (ints l) = (nth (ints l) 0, decide (0 < ((ints l).length : Int))) := by
  cases l with
  | nil => rfl
  | cons a l =>
    simp [fge, ints, nth]
theorem next_fge (S : Nat) (hS : Sm S) (n : Int) (w : World) (hT : Tab w) :
    Calls Tryd.prog 30 #[.agg (setA S), .int .i64 n] w fun e w' => e = .returned (.tuple #[.int .i64 (fge n (ints (mem S 1024))).1, .bool (fge n (ints (mem S 1024))).2]) ∧ Below w.heap.size w w' :=
  (next_any S hS n w hT).mono fun e w' ⟨⟨m, b, he, h⟩, hb⟩ => ⟨by rw [he, (nextRes_fge h).1, (nextRes_fge h).2], hb⟩
theorem first_fge (S : Nat) (hS : Sm S) (w : World) (hT : Tab w) :
    Calls Tryd.prog 32 #[.agg (setA S)] w fun e w' => e = .returned (.tuple #[.int .i64 (nth (ints (mem S 1024)) 0), .bool (decide (0 < ((ints (mem S 1024)).length : Int)))]) ∧ Below w.heap.size w w' :=
  (first_calls S hS w hT).mono fun e w' ⟨⟨m, b, he, h⟩, hb⟩ => ⟨by rw [he, (nextRes_fge h).1, (nextRes_fge h).2, fge_zero], hb⟩
theorem ints_mem_len (S : Nat) : (ints (mem S 1024)).length ≤ 1024 := by rw [ints_len]; exact mem_len S 1024
theorem card_ints (S : Nat) : ((card S : Nat) : Int) = ((ints (mem S 1024)).length : Int) := by rw [card_mem, ints_len]
theorem nth_none {l : List Int} (h : ¬ (0 < (l.length : Int))) : nth l 0 = 0 := by
  obtain rfl : l = [] := List.length_eq_zero_iff.1 (by omega)
  rfl
end Go.Proofs.YthgamlklpfkkhaaDoor
