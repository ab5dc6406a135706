/- LoadRests: a load that nothing is added to comes to nearly nought, and one that n tasks stay at comes to rest near 256 of each: for any load and any number. -/
import Derived.Test.YtphihgbjanpipaaLoad
import Derived.Test.YtphihgbjanpipaaOpen
namespace Go.Proofs.Ytphihgbjanpipaa
open Go.RowKit Go.Joins Go.WideShapes Go.ChangeShapes

/-- A load after k rounds with n tasks. -/
def itr : Nat → Int → Int → Int
  | 0, a, _ => a
  | k + 1, a, n => nxt (itr k a n) n

/-- After the first round: how far a load is from 256 of each task shrinks by a fourth. -/
theorem nxt_near (a n : Int) (h0 : 0 ≤ n) (h1 : n ≤ 999) (ha : 0 ≤ a) (hb : a ≤ 1048576) : nxt a n = a - a / 4 + 64 * n := by
  unfold nxt wth; omega
theorem itr_near (a n : Int) (h0 : 0 ≤ n) (h1 : n ≤ 999) (k : Nat) : 0 ≤ itr (k + 1) a n ∧ itr (k + 1) a n ≤ 1048576 ∧ 4 ^ k * (itr (k + 1) a n - 256 * n - 3) ≤ 3 ^ k * 1048576 ∧ 4 ^ k * (256 * n - itr (k + 1) a n) ≤ 3 ^ k * 1048576 := by
  induction k with
  | zero => show 0 ≤ nxt a n ∧ nxt a n ≤ 1048576 ∧ _; simp only [itr]; unfold nxt wth; omega
  | succ k ih =>
    obtain ⟨i0, i1, i2, i3⟩ := ih
    have e : itr (k + 1 + 1) a n = itr (k + 1) a n - itr (k + 1) a n / 4 + 64 * n := nxt_near _ n h0 h1 i0 i1
    generalize itr (k + 1) a n = y at *
    rw [e]
    refine ⟨by omega, by omega, ?_, ?_⟩
    · rw [Int.pow_succ, Int.pow_succ, Int.mul_assoc, show (3 : Int) ^ k * 3 * 1048576 = 3 * (3 ^ k * 1048576) by rw [Int.mul_comm (3 ^ k) 3, Int.mul_assoc]]
      have h : 4 * (y - y / 4 + 64 * n - 256 * n - 3) ≤ 3 * (y - 256 * n - 3) := by omega
      have p : (0 : Int) ≤ 4 ^ k := Int.pow_nonneg (by omega)
      calc 4 ^ k * (4 * (y - y / 4 + 64 * n - 256 * n - 3)) ≤ 4 ^ k * (3 * (y - 256 * n - 3)) := Int.mul_le_mul_of_nonneg_left h p
        _ = 3 * (4 ^ k * (y - 256 * n - 3)) := by rw [← Int.mul_assoc, Int.mul_comm (4 ^ k) 3, Int.mul_assoc]
        _ ≤ _ := by omega
    · rw [Int.pow_succ, Int.pow_succ, Int.mul_assoc, show (3 : Int) ^ k * 3 * 1048576 = 3 * (3 ^ k * 1048576) by rw [Int.mul_comm (3 ^ k) 3, Int.mul_assoc]]
      have h : 4 * (256 * n - (y - y / 4 + 64 * n)) ≤ 3 * (256 * n - y) := by omega
      have p : (0 : Int) ≤ 4 ^ k := Int.pow_nonneg (by omega)
      calc 4 ^ k * (4 * (256 * n - (y - y / 4 + 64 * n))) ≤ 4 ^ k * (3 * (256 * n - y)) := Int.mul_le_mul_of_nonneg_left h p
        _ = 3 * (4 ^ k * (256 * n - y)) := by rw [← Int.mul_assoc, Int.mul_comm (4 ^ k) 3, Int.mul_assoc]
        _ ≤ _ := by omega

theorem itr_rest (a n : Int) (h0 : 0 ≤ n) (h1 : n ≤ 999) : 256 * n ≤ itr 100 a n ∧ itr 100 a n < 256 * n + 4 := by
  obtain ⟨_, _, i2, i3⟩ := itr_near a n h0 h1 99
  simp only [Nat.reduceAdd] at i2 i3
  generalize itr 100 a n = y at *
  have e : (4 : Int) ^ 99 = 401734511064747568885490523085290650630550748445698208825344 := by decide
  have f : (3 : Int) ^ 99 = 171792506910670443678820376588540424234035840667 := by decide
  rw [e, f] at i2 i3
  omega

theorem loadRests_calls (a n : Int) (w : World) (hn : 0 ≤ n) :
    Calls Try.prog 4 #[.int .i64 a, .int .u64 n] w fun e w' => e = .returned (.bool true) ∧ Below w.heap.size w w' := by
  have H1 : Hid _ := Lib.hid (itr_rest a 0 (by omega) (by omega))
  have H2 : Hid _ := Lib.hid (itr_rest a (n % 1000) (by omega) (by omega))
  have b0 : 0 ≤ n % 1000 := by omega
  have b1 : n % 1000 < 1000 := by omega
  go_enter Try.func4, Try.ntmps4
  go_wp2
  go_loop [6, 7, 13] (fun x y i => ∃ k : Nat, k ≤ 100 ∧ i = .int .i64 k ∧ x = .int .i64 (itr k a 0) ∧ y = .int .i64 (itr k a (n % 1000))) (fun _ _ i => 100 - (intOf i).toNat)
  case atStart => exact ⟨0, Nat.zero_le _, rfl, rfl, rfl⟩
  case round =>
    obtain ⟨k, hk, rfl, rfl, rfl⟩ := hrel
    by_cases hlt : k < 100
    · go_wp2_with (go_at_call 8; refine (next_calls _ _ _).mono ?_; rintro e w' ⟨rfl, rfl⟩)
      go_round
      case rel => exact ⟨k + 1, by omega, by go_num, rfl, rfl⟩
      case measure => simp [intOf]; omega
    · have e : k = 100 := by omega
      have h1 := H1.out
      have h2 := H2.out
      rw [← e] at h1 h2
      clear e H1 H2
      generalize itr k a 0 = X at *
      generalize itr k a (n % 1000) = Y at *
      obtain ⟨h1, h3⟩ := h1
      obtain ⟨h2, h4⟩ := h2
      have h5 : 0 ≤ X := by omega
      have h6 : X < 4 := by omega
      clear h1 h3
      go_wp2_with (go_at_call 9; refine (lives_calls _).mono ?_; rintro e w' ⟨rfl, rfl⟩)
      go_ret
      exact ⟨rfl, Below.refl _ _⟩

theorem loadRests_law {H : Type} {enc : TypeId × Value → H} {W : World} {base0 : Nat} {v0 v1 : Value} {d0 d1 : DataW H} {p0 p1 : List MemPlace}
    (o0 : Value.okWide Try.prog W .any base0 3 v0) (o1 : Value.okWide Try.prog W .any base0 26 v1)
    (h0 : DataW.Trod enc Try.prog W 0 (fun _ => true) true 3 v0 d0 p0) (h1 : DataW.Trod enc Try.prog W 0 (fun _ => true) true 26 v1 d1 p1) :
    Calls Try.prog 4 #[v0, v1] W fun e W' => e = .returned (.bool true) ∧ Below W.heap.size W W' := by
  obtain ⟨a, rfl, rfl, rfl, wa⟩ := open_int Try.underlying3 o0 h0
  obtain ⟨n, rfl, rfl, rfl, wn⟩ := open_int Try.underlying26 o1 h1
  exact loadRests_calls a n W (bounds_u64 wn).1
end Go.Proofs.Ytphihgbjanpipaa
