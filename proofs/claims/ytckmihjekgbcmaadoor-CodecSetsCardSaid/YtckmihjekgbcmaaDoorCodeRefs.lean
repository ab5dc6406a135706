/- What the document's Get reads, step by step: plain laws. -/
import Derived.Test.YtckmihjekgbcmaaDoorCodeGetInt
namespace Go.Proofs.YtckmihjekgbcmaaDoor
open Go.RowKit Go.WideShapes Go.ChangeShapes

theorem bt_cut {l : List UInt8} {p k : Nat} (h : k < ((l.drop p).take 10).length) : bt ((l.drop p).take 10) k = bt l (p + k) := by
  rw [List.length_take, List.length_drop] at h
  unfold bt
  simp only [List.getD_eq_getElem?_getD, List.getElem?_take, List.getElem?_drop]
  rw [if_pos (by omega)]
theorem part_lt {c : UInt8} {k j : Nat} (hj : j ≤ k) (hk : k ≤ 8 ∨ (k = 9 ∧ c.toNat ≤ 1)) : c.toNat % 128 * 2 ^ (7 * j) < 2 ^ 64 := by
  have h2 : 2 ^ (7 * j) ≤ 2 ^ (7 * k) := Nat.pow_le_pow_right (by omega) (by omega)
  rcases hk with hk | ⟨rfl, hc⟩
  · have h3 : 2 ^ (7 * k) ≤ 2 ^ 56 := Nat.pow_le_pow_right (by omega) (by omega)
    calc c.toNat % 128 * 2 ^ (7 * j) ≤ 127 * 2 ^ 56 := Nat.mul_le_mul (by omega) (Nat.le_trans h2 h3)
      _ < 2 ^ 64 := by decide
  · calc c.toNat % 128 * 2 ^ (7 * j) ≤ 1 * 2 ^ (7 * 9) := Nat.mul_le_mul (by omega) h2
      _ < 2 ^ 64 := by decide
theorem part_step {x j : Nat} : x * 2 ^ (7 * j) * 128 = x * 2 ^ (7 * (j + 1)) := by rw [show 7 * (j + 1) = 7 * j + 7 by omega, Nat.pow_add, Nat.mul_assoc]
theorem read_lt {c : UInt8} {k u : Nat} (hu : u < 2 ^ (7 * k)) (hk : k ≤ 8 ∨ (k = 9 ∧ c.toNat ≤ 1)) : u + c.toNat % 128 * 2 ^ (7 * k) < 2 ^ 64 := by
  rcases hk with hk | ⟨rfl, hc⟩
  · exact Nat.lt_of_lt_of_le (sum_lt hu) (Nat.pow_le_pow_right (by omega) (by omega))
  · have : c.toNat % 128 * 2 ^ (7 * 9) ≤ 1 * 2 ^ (7 * 9) := Nat.mul_le_mul_right _ (by omega)
    omega
/-- Where reading stands at the k-th byte. -/
def Rdh (Z : List UInt8) (k u : Nat) : Prop := u < 2 ^ (7 * k) ∧ gi (Z.drop k) k u = gi Z 0 0
theorem rdh_start (Z : List UInt8) : Rdh Z 0 0 := ⟨by decide, rfl⟩
theorem rdh_over {Z : List UInt8} {k u : Nat} (h : Rdh Z k u) (hk : Z.length ≤ k) : gi Z 0 0 = none := by rw [← h.2, List.drop_eq_nil_of_le hk, gi]
theorem rdh_cont {Z : List UInt8} {k u : Nat} {c : UInt8} (h : Rdh Z k u) (hk : k < Z.length) (hcz : bt Z k = c) (hc : 128 ≤ c.toNat) : Rdh Z (k + 1) (u + c.toNat % 128 * 2 ^ (7 * k)) := by
  subst hcz
  obtain ⟨h1, h2⟩ := h
  rw [drop_bt hk, gi_cont hc] at h2
  exact ⟨sum_lt h1, h2⟩
theorem rdh_bad {Z : List UInt8} {k u : Nat} {c : UInt8} (h : Rdh Z k u) (hk : k < Z.length) (hZ : Z.length ≤ 10) (hcz : bt Z k = c) (hb : (¬ 128 ≤ c.toNat ∧ c.toNat = 0 ∧ 0 < k) ∨ (k = 9 ∧ 1 < c.toNat)) : gi Z 0 0 = none := by
  subst hcz
  obtain ⟨h1, h2⟩ := h
  rw [drop_bt hk] at h2
  by_cases hc : 128 ≤ (bt Z k).toNat
  · rw [gi_cont hc, List.drop_eq_nil_of_le (by omega), gi] at h2
    exact h2.symm
  · rw [gi, if_neg hc, if_pos (by omega)] at h2
    exact h2.symm
theorem rdh_end {Z : List UInt8} {k u : Nat} {c : UInt8} (h : Rdh Z k u) (hk : k < Z.length) (hcz : bt Z k = c) (hc : ¬ 128 ≤ c.toNat) (hb : ¬ ((c.toNat = 0 ∧ 0 < k) ∨ (k = 9 ∧ 1 < c.toNat))) : gi Z 0 0 = some (u + c.toNat % 128 * 2 ^ (7 * k), k + 1) := by
  subst hcz
  obtain ⟨h1, h2⟩ := h
  rw [drop_bt hk, gi_end hc _ hb] at h2
  rw [← h2, Nat.mod_eq_of_lt (by omega)]
/-- What the document's Get answers. -/
def gres2 : Option (Nat × Nat) → Value
  | none => .tuple #[.int .i64 0, .int .i64 0]
  | some (u, m) => .tuple #[.int .i64 (zag u), .int .i64 (m : Int)]
end Go.Proofs.YtckmihjekgbcmaaDoor
