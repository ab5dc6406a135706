/- How many bits of a word are set, by the steps that math/bits takes: plain laws. -/
import Derived.Test.YthgamlklpfkkhaaDoorKit
namespace Go.Proofs.YthgamlklpfkkhaaDoor

/-- A number of these digits, to the base B, the lowest first. -/
def dig (B : Nat) : List Nat → Nat
  | [] => 0
  | d :: l => d + B * dig B l
/-- Neighbours taken together. -/
def prs : List Nat → List Nat
  | a :: b :: l => (a + b) :: prs l
  | l => l
def sumL (l : List Nat) : Nat := l.foldr (· + ·) 0
theorem sumL_prs : ∀ l : List Nat, sumL (prs l) = sumL l
  | [] => rfl
  | [_] => rfl
  | a :: b :: l => by
    have := sumL_prs l
    simp only [prs, sumL, List.foldr_cons] at *
    rw [this]
    omega

theorem and_low {k x m u v : Nat} (hx : x < 2 ^ k) (hm : m < 2 ^ k) : (x + 2 ^ k * u) &&& (m + 2 ^ k * v) = (x &&& m) + 2 ^ k * (u &&& v) := by
  refine Nat.eq_of_testBit_eq fun i => ?_
  have hxm : x &&& m < 2 ^ k := Nat.lt_of_le_of_lt Nat.and_le_left hx
  rw [Nat.testBit_and, Nat.add_comm x, Nat.add_comm m, Nat.add_comm (x &&& m), Nat.testBit_two_pow_mul_add _ hx, Nat.testBit_two_pow_mul_add _ hm, Nat.testBit_two_pow_mul_add _ hxm]
  split <;> rw [Nat.testBit_and]

/-- One step: the fields of k bits are taken together, two and two. -/
theorem prs_step (k : Nat) : ∀ (n : Nat) (l : List Nat), l.length = 2 * n → (∀ d ∈ l, d < 2 ^ k) →
    (dig (2 ^ k) l >>> k &&& dig (2 ^ k * 2 ^ k) (List.replicate n (2 ^ k - 1))) + (dig (2 ^ k) l &&& dig (2 ^ k * 2 ^ k) (List.replicate n (2 ^ k - 1))) = dig (2 ^ k * 2 ^ k) (prs l)
  | 0, l, hl, _ => by
    obtain rfl : l = [] := List.length_eq_zero_iff.1 (by omega)
    simp [dig, prs]
  | n + 1, [], hl, _ => by simp at hl
  | n + 1, [a], hl, _ => by simp at hl; omega
  | n + 1, a :: b :: l, hl, hd => by
    have ih := prs_step k n l (by simp at hl; omega) (fun d h => hd d (by simp [h]))
    have ha := hd a (by simp)
    have hb := hd b (by simp)
    have hp : 0 < 2 ^ k := Nat.two_pow_pos k
    have hBB : 2 ^ k * 2 ^ k = 2 ^ (k + k) := (Nat.pow_add 2 k k).symm
    have ab : a + 2 ^ k * b < 2 ^ k * 2 ^ k := by
      have : 2 ^ k * (b + 1) ≤ 2 ^ k * 2 ^ k := Nat.mul_le_mul_left _ hb
      rw [Nat.mul_add] at this
      omega
    have e1 : dig (2 ^ k) (a :: b :: l) = (a + 2 ^ k * b) + 2 ^ k * 2 ^ k * dig (2 ^ k) l := by simp only [dig]; rw [Nat.mul_add, Nat.mul_assoc]; omega
    have m1 : 2 ^ k - 1 < 2 ^ k * 2 ^ k := by
      have := Nat.mul_le_mul_left (2 ^ k) hp
      omega
    have e2 : dig (2 ^ k * 2 ^ k) (List.replicate (n + 1) (2 ^ k - 1)) = (2 ^ k - 1) + 2 ^ k * 2 ^ k * dig (2 ^ k * 2 ^ k) (List.replicate n (2 ^ k - 1)) := by simp [List.replicate_succ, dig]
    have lowa : (a + 2 ^ k * b) &&& (2 ^ k - 1) = a := by rw [Nat.and_two_pow_sub_one_eq_mod, Nat.add_mul_mod_self_left, Nat.mod_eq_of_lt ha]
    have sh : dig (2 ^ k) (a :: b :: l) >>> k = b + 2 ^ k * dig (2 ^ k) l := by
      rw [Nat.shiftRight_eq_div_pow]
      simp only [dig]
      rw [Nat.add_comm, Nat.mul_add_div hp, Nat.div_eq_of_lt ha, Nat.add_zero]
    generalize hD : dig (2 ^ k) l = D at *
    generalize hM : dig (2 ^ k * 2 ^ k) (List.replicate n (2 ^ k - 1)) = M at *
    have lowb : (b + 2 ^ k * D) = (b + 2 ^ k * (D % 2 ^ k)) + 2 ^ k * 2 ^ k * (D >>> k) := by
      have := Nat.div_add_mod D (2 ^ k)
      rw [Nat.shiftRight_eq_div_pow]
      have h2 : 2 ^ k * D = 2 ^ k * (2 ^ k * (D / 2 ^ k) + D % 2 ^ k) := by rw [this]
      rw [h2, Nat.mul_add, ← Nat.mul_assoc]
      omega
    have bb : b + 2 ^ k * (D % 2 ^ k) < 2 ^ k * 2 ^ k := by
      have : 2 ^ k * (D % 2 ^ k + 1) ≤ 2 ^ k * 2 ^ k := Nat.mul_le_mul_left _ (Nat.mod_lt _ hp)
      rw [Nat.mul_add] at this
      omega
    have lowb2 : (b + 2 ^ k * (D % 2 ^ k)) &&& (2 ^ k - 1) = b := by rw [Nat.and_two_pow_sub_one_eq_mod, Nat.add_mul_mod_self_left, Nat.mod_eq_of_lt hb]
    rw [sh, e1, e2, lowb]
    rw [hBB] at ab m1 bb ih ⊢
    rw [and_low bb m1, and_low ab m1, lowb2, lowa]
    simp only [prs, dig]
    rw [← ih, Nat.mul_add]
    omega

/-- The word's bits. -/
def bitL (x : Nat) : List Nat := (List.range 64).map fun i => (x.testBit i).toNat
def pop (x : Nat) : Nat := sumL (bitL x)
theorem dig_bits : ∀ (n x : Nat), x < 2 ^ n → dig 2 ((List.range n).map fun i => (x.testBit i).toNat) = x
  | 0, x, h => by simp at h; subst h; rfl
  | n + 1, x, h => by
    rw [List.range_succ_eq_map, List.map_cons, List.map_map]
    have e : (List.range n).map ((fun i => (x.testBit i).toNat) ∘ Nat.succ) = (List.range n).map fun i => ((x / 2).testBit i).toNat := by
      refine List.map_congr_left fun i _ => ?_
      simp [Nat.testBit_succ]
    rw [dig, e, dig_bits n (x / 2) (by rw [Nat.pow_succ] at h; omega)]
    have : (x.testBit 0).toNat = x % 2 := by
      rw [Nat.testBit_zero]
      rcases Nat.mod_two_eq_zero_or_one x with h | h <;> simp [h]
    omega
theorem prs_len : ∀ (n : Nat) (l : List Nat), l.length = 2 * n → (prs l).length = n
  | 0, l, h => by obtain rfl : l = [] := List.length_eq_zero_iff.1 (by omega); rfl
  | n + 1, [], h => by simp at h
  | n + 1, [a], h => by simp at h; omega
  | n + 1, a :: b :: l, h => by simp [prs, prs_len n l (by simp at h; omega)]
theorem prs_le (m : Nat) : ∀ (l : List Nat), l.length % 2 = 0 → (∀ d ∈ l, d ≤ m) → ∀ d ∈ prs l, d ≤ 2 * m
  | [], _, _, d, hd => by simp [prs] at hd
  | [a], h, _, _, _ => by simp at h
  | a :: b :: l, h, hm, d, hd => by
    simp only [prs, List.mem_cons] at hd
    rcases hd with rfl | hd
    · have := hm a (by simp); have := hm b (by simp); omega
    · exact prs_le m l (by simp at h; omega) (fun x hx => hm x (by simp [hx])) d hd
theorem dig_lt (B : Nat) (hB : 0 < B) : ∀ (l : List Nat), (∀ d ∈ l, d < B) → dig B l < B ^ l.length
  | [], _ => by simp [dig]
  | d :: l, h => by
    have h1 := h d (by simp)
    have h2 := dig_lt B hB l (fun x hx => h x (by simp [hx]))
    simp only [dig, List.length_cons, Nat.pow_succ]
    have : B * (dig B l + 1) ≤ B * B ^ l.length := Nat.mul_le_mul_left _ h2
    rw [Nat.mul_add, Nat.mul_comm B (B ^ l.length)] at this
    omega

def evens : List Nat → List Nat
  | a :: _ :: l => a :: evens l
  | l => l
/-- Each with its neighbour. -/
def adj : List Nat → List Nat
  | a :: b :: l => (a + b) :: adj (b :: l)
  | l => l
theorem adj_len : ∀ l : List Nat, (adj l).length = l.length
  | [] => rfl
  | [_] => rfl
  | a :: b :: l => by simp [adj, adj_len (b :: l)]
theorem adj_le (m : Nat) : ∀ (l : List Nat), (∀ d ∈ l, d ≤ m) → ∀ d ∈ adj l, d ≤ 2 * m
  | [], _, d, hd => by simp [adj] at hd
  | [a], h, d, hd => by
    simp only [adj, List.mem_singleton] at hd
    have := h a (by simp)
    omega
  | a :: b :: l, h, d, hd => by
    simp only [adj, List.mem_cons] at hd
    rcases hd with rfl | hd
    · have := h a (by simp); have := h b (by simp); omega
    · exact adj_le m (b :: l) (fun x hx => h x (by simp [hx])) d hd
theorem evens_adj : ∀ (n : Nat) (l : List Nat), l.length = 2 * n → evens (adj l) = prs l
  | 0, l, h => by obtain rfl : l = [] := List.length_eq_zero_iff.1 (by omega); rfl
  | n + 1, [], h => by simp at h
  | n + 1, [a], h => by simp at h; omega
  | n + 1, [a, b], h => rfl
  | n + 1, a :: b :: c :: l, h => by
    have ih := evens_adj n (c :: l) (by simp at h ⊢; omega)
    simp only [adj, prs] at *
    simp only [evens]
    rw [ih]
theorem dig_adj (B : Nat) (hB : 0 < B) : ∀ l : List Nat, (∀ d ∈ l, d < B) → dig B l / B + dig B l = dig B (adj l)
  | [], _ => by simp [dig, adj]
  | [a], h => by
    have := h a (by simp)
    simp [dig, adj, Nat.div_eq_of_lt this]
  | a :: b :: l, h => by
    have ih := dig_adj B hB (b :: l) (fun x hx => h x (by simp [hx]))
    have ha := h a (by simp)
    have hb := h b (by simp)
    have e1 : dig B (a :: b :: l) / B = dig B (b :: l) := by
      simp only [dig]
      rw [Nat.add_comm, Nat.mul_add_div hB, Nat.div_eq_of_lt ha, Nat.add_zero]
    have e2 : dig B (b :: l) / B = dig B l := by
      simp only [dig]
      rw [Nat.add_comm, Nat.mul_add_div hB, Nat.div_eq_of_lt hb, Nat.add_zero]
    rw [e1]
    simp only [adj]
    rw [show dig B ((a + b) :: adj (b :: l)) = (a + b) + B * dig B (adj (b :: l)) from rfl, ← ih, e2]
    simp only [dig, Nat.mul_add]
    omega
/-- The even fields. -/
theorem evens_and (k : Nat) : ∀ (n : Nat) (l : List Nat), l.length = 2 * n → (∀ d ∈ l, d < 2 ^ k) → dig (2 ^ k) l &&& dig (2 ^ k * 2 ^ k) (List.replicate n (2 ^ k - 1)) = dig (2 ^ k * 2 ^ k) (evens l)
  | 0, l, hl, _ => by
    obtain rfl : l = [] := List.length_eq_zero_iff.1 (by omega)
    simp [dig, evens]
  | n + 1, [], hl, _ => by simp at hl
  | n + 1, [a], hl, _ => by simp at hl; omega
  | n + 1, a :: b :: l, hl, hd => by
    have ih := evens_and k n l (by simp at hl; omega) (fun d h => hd d (by simp [h]))
    have ha := hd a (by simp)
    have hb := hd b (by simp)
    have hp : 0 < 2 ^ k := Nat.two_pow_pos k
    have hBB : 2 ^ k * 2 ^ k = 2 ^ (k + k) := (Nat.pow_add 2 k k).symm
    have ab : a + 2 ^ k * b < 2 ^ k * 2 ^ k := by
      have : 2 ^ k * (b + 1) ≤ 2 ^ k * 2 ^ k := Nat.mul_le_mul_left _ hb
      rw [Nat.mul_add] at this
      omega
    have e1 : dig (2 ^ k) (a :: b :: l) = (a + 2 ^ k * b) + 2 ^ k * 2 ^ k * dig (2 ^ k) l := by simp only [dig]; rw [Nat.mul_add, Nat.mul_assoc]; omega
    have m1 : 2 ^ k - 1 < 2 ^ k * 2 ^ k := by
      have := Nat.mul_le_mul_left (2 ^ k) hp
      omega
    have e2 : dig (2 ^ k * 2 ^ k) (List.replicate (n + 1) (2 ^ k - 1)) = (2 ^ k - 1) + 2 ^ k * 2 ^ k * dig (2 ^ k * 2 ^ k) (List.replicate n (2 ^ k - 1)) := by simp [List.replicate_succ, dig]
    have lowa : (a + 2 ^ k * b) &&& (2 ^ k - 1) = a := by rw [Nat.and_two_pow_sub_one_eq_mod, Nat.add_mul_mod_self_left, Nat.mod_eq_of_lt ha]
    rw [e1, e2]
    rw [hBB] at ab m1 ih ⊢
    rw [and_low ab m1, lowa, ih]
    rfl

/-- math/bits' steps: after three of them there are eight fields of eight bits. -/
theorem pop_eight (x : Nat) (hx : x < 2 ^ 64) :
    ∃ e0 e1 e2 e3 e4 e5 e6 e7 : Nat, e0 ≤ 8 ∧ e1 ≤ 8 ∧ e2 ≤ 8 ∧ e3 ≤ 8 ∧ e4 ≤ 8 ∧ e5 ≤ 8 ∧ e6 ≤ 8 ∧ e7 ≤ 8 ∧ pop x = e0 + e1 + e2 + e3 + e4 + e5 + e6 + e7 ∧
      ∃ y z : Nat, y = (x >>> 1 &&& 6148914691236517205) + (x &&& 6148914691236517205) ∧ y < 2 ^ 64 ∧ z = (y >>> 2 &&& 3689348814741910323) + (y &&& 3689348814741910323) ∧ z < 2 ^ 64 ∧ (z >>> 4) + z < 2 ^ 64 ∧
        ((z >>> 4) + z) &&& 1085102592571150095 = e0 + 2 ^ 8 * (e1 + 2 ^ 8 * (e2 + 2 ^ 8 * (e3 + 2 ^ 8 * (e4 + 2 ^ 8 * (e5 + 2 ^ 8 * (e6 + 2 ^ 8 * e7)))))) := by
  have l0 : (bitL x).length = 2 * 32 := by simp [bitL]
  have b0 : ∀ d ∈ bitL x, d ≤ 1 := by
    intro d hd
    simp only [bitL, List.mem_map] at hd
    obtain ⟨i, _, rfl⟩ := hd
    cases x.testBit i <;> simp
  have l1 := prs_len 32 _ l0
  have b1 := prs_le 1 _ (by omega) b0
  have l2 := prs_len 16 _ (by omega : (prs (bitL x)).length = 2 * 16)
  have b2 := prs_le 2 _ (by omega) b1
  have l3 := prs_len 8 _ (by omega : (prs (prs (bitL x))).length = 2 * 8)
  have b3 := prs_le 4 _ (by omega) b2
  have s1 := prs_step 1 32 _ l0 (fun d hd => by have := b0 d hd; omega)
  have s2 := prs_step 2 16 _ (by omega) (fun d hd => by have := b1 d hd; omega)
  have hp : pop x = sumL (prs (prs (prs (bitL x)))) := by rw [sumL_prs, sumL_prs, sumL_prs]; rfl
  have hx0 : dig (2 ^ 1) (bitL x) = x := dig_bits 64 x hx
  have d1 : dig (2 ^ 2) (prs (bitL x)) < 2 ^ 64 := by
    have := dig_lt (2 ^ 2) (by omega) _ (fun d hd => by have := b1 d hd; omega : ∀ d ∈ prs (bitL x), d < 2 ^ 2)
    rw [l1] at this
    exact this
  have d2 : dig (2 ^ 4) (prs (prs (bitL x))) < 2 ^ 64 := by
    have := dig_lt (2 ^ 4) (by omega) _ (fun d hd => by have := b2 d hd; omega : ∀ d ∈ prs (prs (bitL x)), d < 2 ^ 4)
    rw [l2] at this
    exact this
  have m1 : dig (2 ^ 1 * 2 ^ 1) (List.replicate 32 (2 ^ 1 - 1)) = 6148914691236517205 := by decide +kernel
  have m2 : dig (2 ^ 2 * 2 ^ 2) (List.replicate 16 (2 ^ 2 - 1)) = 3689348814741910323 := by decide +kernel
  have m3 : dig (2 ^ 4 * 2 ^ 4) (List.replicate 8 (2 ^ 4 - 1)) = 1085102592571150095 := by decide +kernel
  rw [hx0, m1] at s1
  rw [m2] at s2
  have q1 : (2 ^ 1 * 2 ^ 1 : Nat) = 2 ^ 2 := by decide
  have q2 : (2 ^ 2 * 2 ^ 2 : Nat) = 2 ^ 4 := by decide
  have q3 : (2 ^ 4 * 2 ^ 4 : Nat) = 2 ^ 8 := by decide
  rw [q1] at s1
  rw [q2] at s2
  rw [hp]
  have a3 := dig_adj (2 ^ 4) (by omega) _ (fun d hd => by have := b2 d hd; omega : ∀ d ∈ prs (prs (bitL x)), d < 2 ^ 4)
  have v3 := evens_and 4 8 (adj (prs (prs (bitL x)))) (by rw [adj_len]; omega) (fun d hd => by have := adj_le 4 _ (by simpa using b2) d hd; omega)
  have c3 : dig (2 ^ 4) (adj (prs (prs (bitL x)))) < 2 ^ 64 := by
    have := dig_lt (2 ^ 4) (by omega) _ (fun d hd => by have := adj_le 4 _ (by simpa using b2) d hd; omega : ∀ d ∈ adj (prs (prs (bitL x))), d < 2 ^ 4)
    rw [adj_len, l2] at this
    exact this
  rw [m3, q3, evens_adj 8 _ (by omega)] at v3
  rw [← a3] at v3 c3
  have h8 : ∃ e0 e1 e2 e3 e4 e5 e6 e7 : Nat, prs (prs (prs (bitL x))) = [e0, e1, e2, e3, e4, e5, e6, e7] := by
    generalize prs (prs (prs (bitL x))) = l at l3
    match l, l3 with
    | [a, b, c, d, e, f, g, h], _ => exact ⟨a, b, c, d, e, f, g, h, rfl⟩
  obtain ⟨e0, e1, e2, e3, e4, e5, e6, e7, h8⟩ := h8
  have bb : ∀ d ∈ [e0, e1, e2, e3, e4, e5, e6, e7], d ≤ 8 := by rw [← h8]; exact b3
  rw [h8] at v3
  refine ⟨e0, e1, e2, e3, e4, e5, e6, e7, bb _ (by simp), bb _ (by simp), bb _ (by simp), bb _ (by simp), bb _ (by simp), bb _ (by simp), bb _ (by simp), bb _ (by simp), ?_, dig (2 ^ 2) (prs (bitL x)), dig (2 ^ 4) (prs (prs (bitL x))), s1.symm, d1, s2.symm, d2, ?_, ?_⟩
  · rw [h8]; simp only [sumL, List.foldr_cons, List.foldr_nil]; omega
  · rw [Nat.shiftRight_eq_div_pow]; exact c3
  · rw [Nat.shiftRight_eq_div_pow, v3]; simp [dig]
end Go.Proofs.YthgamlklpfkkhaaDoor
