/- The number that stands in bytes: plain laws. -/
import Derived.Test.YtckmihjekgbcmaaDoorCodeRefInt
namespace Go.Proofs.YtckmihjekgbcmaaDoor
open Go.RowKit Go.WideShapes Go.ChangeShapes

/-- Bytes from the i-th on, so much having been read: the number and how many bytes it has. -/
def gi : List UInt8 → Nat → Nat → Option (Nat × Nat)
  | [], _, _ => none
  | c :: cs, i, u => if 128 ≤ c.toNat then gi cs (i + 1) (u + (c.toNat % 128) * 2 ^ (7 * i)) else if (c.toNat = 0 ∧ 0 < i) ∨ (i = 9 ∧ 1 < c.toNat) then none else some (u + c.toNat * 2 ^ (7 * i), i + 1)
/-- .. that stands from a place on. -/
def getAt (l : List UInt8) (at_ : Nat) : Option (Nat × Nat) := gi ((l.drop at_).take 10) 0 0
theorem gi_cont {c : UInt8} (h : 128 ≤ c.toNat) (cs : List UInt8) (i u : Nat) : gi (c :: cs) i u = gi cs (i + 1) (u + (c.toNat % 128) * 2 ^ (7 * i)) := by rw [gi, if_pos h]
theorem gi_bad {c : UInt8} (h : ¬ 128 ≤ c.toNat) (h2 : (c.toNat = 0 ∧ 0 < c.toNat + 1 ∧ False) ∨ True) (cs : List UInt8) {i u : Nat} (h3 : (c.toNat = 0 ∧ 0 < i) ∨ (i = 9 ∧ 1 < c.toNat)) : gi (c :: cs) i u = none := by rw [gi, if_neg h, if_pos h3]
theorem gi_end {c : UInt8} (h : ¬ 128 ≤ c.toNat) (cs : List UInt8) {i u : Nat} (h3 : ¬ ((c.toNat = 0 ∧ 0 < i) ∨ (i = 9 ∧ 1 < c.toNat))) : gi (c :: cs) i u = some (u + c.toNat * 2 ^ (7 * i), i + 1) := by rw [gi, if_neg h, if_neg h3]
theorem gi_vb : ∀ (u i acc : Nat) (rest : List UInt8), i ≤ 9 → u < 2 ^ (64 - 7 * i) → (u ≠ 0 ∨ i = 0) → gi ((vb u ++ rest).take (10 - i)) i acc = some (acc + u * 2 ^ (7 * i), i + (vb u).length) := by
  intro u
  induction u using Nat.strongRecOn with
  | _ u ih =>
    intro i acc rest hi hu h0
    by_cases h : u < 128
    · rw [vb_low h, List.cons_append, show 10 - i = (9 - i) + 1 by omega, List.take_succ_cons, gi_end]
      · rw [ofNat_toNat (by omega)]; simp
      · rw [ofNat_toNat (by omega)]; omega
      · rw [ofNat_toNat (by omega)]
        rintro (h1 | h1)
        · omega
        · have : i = 9 := h1.1
          subst this
          simp at hu
          omega
    · have hi8 : i ≤ 8 := by
        rcases Nat.lt_or_ge 8 i with h8 | h8
        · have : i = 9 := by omega
          subst this
          simp at hu
          omega
        · exact h8
      rw [vb_high (by omega), List.cons_append, show 10 - i = (10 - (i + 1)) + 1 by omega, List.take_succ_cons, gi_cont (by rw [ofNat_toNat (by omega)]; omega), ofNat_toNat (by omega)]
      rw [ih (u / 128) (by omega) (i + 1) _ rest (by omega) ?_ (.inl (by omega))]
      · rw [List.length_cons]
        congr 1
        refine Prod.ext ?_ (by show i + 1 + _ = i + (_ + 1); omega)
        show acc + (u % 128 + 128) % 128 * 2 ^ (7 * i) + u / 128 * 2 ^ (7 * (i + 1)) = acc + u * 2 ^ (7 * i)
        rw [show 7 * (i + 1) = 7 * i + 7 by omega, Nat.pow_add, show (u % 128 + 128) % 128 = u % 128 by omega, Nat.add_assoc]
        congr 1
        generalize 2 ^ (7 * i) = P
        have e : u = u % 128 + 128 * (u / 128) := (Nat.mod_add_div u 128).symm
        calc u % 128 * P + u / 128 * (P * 2 ^ 7) = (u % 128 + 128 * (u / 128)) * P := by rw [Nat.add_mul]; congr 1; rw [Nat.mul_comm P, ← Nat.mul_assoc, Nat.mul_comm (u / 128)]
          _ = u * P := by rw [← e]
      · have : 2 ^ (64 - 7 * i) = 2 ^ (64 - 7 * (i + 1)) * 128 := by rw [show 64 - 7 * i = (64 - 7 * (i + 1)) + 7 by omega, Nat.pow_add]
        rw [this] at hu
        exact Nat.div_lt_of_lt_mul (by rw [Nat.mul_comm]; exact hu)
/-- What was written is read as it. -/
theorem getAt_vb {u : Nat} (h : u < 2 ^ 64) (l : List UInt8) : getAt (l ++ vb u) l.length = some (u, (vb u).length) := by
  unfold getAt
  rw [List.drop_left]
  have := gi_vb u 0 0 [] (by omega) (by simpa using h) (.inr rfl)
  simpa using this
end Go.Proofs.YtckmihjekgbcmaaDoor
