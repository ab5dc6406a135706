/- What cpuset's is, Has, Put, Drop and the reference's Has do, over sets as numbers. -/
import Derived.Test.YtckmihjekgbcmaaDoorSet
namespace Go.Proofs.YtckmihjekgbcmaaDoor
open Go.RowKit Go.WideShapes Go.ChangeShapes

theorem ret_bool {a b : Bool} (h : a = b) : Ending.returned (.bool a) = .returned (.bool b) := by rw [h]

theorem shr_mod (v k : Nat) : (((v : Int) / 2 ^ k).tmod 2 == 1) = (v / 2 ^ k % 2 == 1) := by
  have e : ((v : Int) / 2 ^ k) = ((v / 2 ^ k : Nat) : Int) := by simp
  rw [e, Int.tmod_eq_emod_of_nonneg (Int.natCast_nonneg _)]
  rw [Bool.eq_iff_iff]; simp; omega

theorem refHas_in (S n : Nat) (w : World) (h : n < 1024) : Calls Tryd.prog 33 #[.agg (setA S), .int .i64 n] w fun e w' => e = .returned (.bool (has S n)) ∧ w' = w.alloc (.cells (setA S) 33) := by
  have hg := setA_get S (n / 64) (by omega)
  have hw := has_word S n
  have hl := wd_lt S (n / 64)
  generalize wd S (n / 64) = v at *
  have hh := has_nat S n
  have HW := Lib.hid hw
  have HH := Lib.hid hh
  clear hw hh
  go_enter Tryd.func33, Tryd.ntmps33
  go_wp2
  go_ret
  refine ⟨ret_bool ?_, rfl⟩
  rw [HH.out]
  simp [shr_mod, HW.out]
  cases S.testBit n <;> rfl
theorem refHas_calls (S : Nat) (hS : Sm S) (n : Int) (w : World) : Calls Tryd.prog 33 #[.agg (setA S), .int .i64 n] w fun e w' => e = .returned (.bool (has S n)) ∧ w' = w.alloc (.cells (setA S) 33) := by
  by_cases h : 0 ≤ n ∧ n < 1024
  · obtain ⟨m, rfl⟩ := Int.eq_ofNat_of_zero_le h.1
    exact refHas_in S m w (by omega)
  · have hh : has S n = false := by
      by_cases h0 : n < 0
      · exact has_neg S n h0
      · exact has_big hS (by omega)
    rw [hh]
    by_cases h0 : n < 0
    · clear hh h hS
      go_enter Tryd.func33, Tryd.ntmps33
      go_wp2
      go_ret
      exact ⟨rfl, rfl⟩
    · have h1 : 1024 ≤ n := by omega
      clear hh h hS
      go_enter Tryd.func33, Tryd.ntmps33
      go_wp2
      go_ret
      exact ⟨rfl, rfl⟩

theorem is_calls (n : Int) (w : World) : Calls Tryd.prog 41 #[.int .i64 n] w fun e w' => e = .returned (.bool (decide (0 ≤ n ∧ n < 1024))) ∧ w = w' := by
  by_cases h : 0 ≤ n ∧ n < 1024
  · rw [decide_eq_true h]
    obtain ⟨h0, h1⟩ := h
    go_enter Tryd.func41, Tryd.ntmps41
    go_wp2
    go_ret
    exact ⟨rfl, rfl⟩
  · rw [decide_eq_false h]
    by_cases h0 : n < 0
    · clear h
      go_enter Tryd.func41, Tryd.ntmps41
      go_wp2
      go_ret
      exact ⟨rfl, rfl⟩
    · have h1 : 1024 ≤ n := by omega
      clear h
      go_enter Tryd.func41, Tryd.ntmps41
      go_wp2
      go_ret
      exact ⟨ret_bool (by simp; omega), rfl⟩
theorem is_yes (n : Int) (w : World) (h : 0 ≤ n ∧ n < 1024) : Calls Tryd.prog 41 #[.int .i64 n] w fun e w' => e = .returned (.bool true) ∧ w = w' := by
  have := is_calls n w
  rwa [decide_eq_true h] at this
theorem is_no (n : Int) (w : World) (h : ¬ (0 ≤ n ∧ n < 1024)) : Calls Tryd.prog 41 #[.int .i64 n] w fun e w' => e = .returned (.bool false) ∧ w = w' := by
  have := is_calls n w
  rwa [decide_eq_false h] at this

theorem wraps_u64 (n : Int) (h₀ : 0 ≤ n) (h₁ : n < 2 ^ 64) : IntKind.u64.wrap n = n := by
  have e : IntKind.u64.wrap n = n % 18446744073709551616 := by simp [IntKind.wrap, IntKind.bits, IntKind.signed]
  rw [e]
  omega
theorem bits64 (a b : Nat) (ha : a < 2 ^ 64) (hb : b < 2 ^ 64) : bits .and .u64 a b = ((a &&& b : Nat) : Int) ∧ bits .or .u64 a b = ((a ||| b : Nat) : Int) :=
  bits_nat .u64 64 (by decide) wraps_u64 a b ha hb
theorem bits64_not (a b : Nat) (ha : a < 2 ^ 64) (hb : b < 2 ^ 64) : bits .andNot .u64 a b = ((a ^^^ (a &&& b) : Nat) : Int) := by
  have e0 : (BitVec.ofNat 64 a &&& ~~~BitVec.ofNat 64 b).toNat = a ^^^ (a &&& b) := by
    refine Nat.eq_of_testBit_eq fun i => ?_
    rw [← BitVec.getLsbD]
    simp only [BitVec.getLsbD_and, BitVec.getLsbD_not, BitVec.getLsbD_ofNat, Nat.testBit_xor, Nat.testBit_and]
    by_cases hi : i < 64
    · simp only [hi, decide_true, Bool.true_and]
      cases a.testBit i <;> cases b.testBit i <;> rfl
    · have : a.testBit i = false := Nat.testBit_lt_two_pow (Nat.lt_of_lt_of_le ha (Nat.pow_le_pow_right (by decide) (by omega)))
      simp [hi, this]
  have e : (BitVec.ofNat IntKind.u64.bits a &&& ~~~BitVec.ofNat IntKind.u64.bits b).toNat = a ^^^ (a &&& b) := e0
  simp only [bits, BitVec.ofInt_natCast]
  rw [e]
  refine wraps_u64 _ (Int.natCast_nonneg _) ?_
  have : a ^^^ (a &&& b) < 2 ^ 64 := Nat.xor_lt_two_pow ha (Nat.and_lt_two_pow _ hb)
  exact_mod_cast this
theorem div_lt64 {v : Nat} (h : v < 2 ^ 64) (k : Nat) : v / 2 ^ k < 2 ^ 64 := Nat.lt_of_le_of_lt (Nat.div_le_self _ _) h
theorem and_one (v k : Nat) (h : v < 2 ^ 64) : (bits .and .u64 ((v : Int) / 2 ^ k) 1 == 1) = (v / 2 ^ k % 2 == 1) := by
  have e : ((v : Int) / 2 ^ k) = ((v / 2 ^ k : Nat) : Int) := by simp
  have := (bits64 (v / 2 ^ k) 1 (div_lt64 h k) (by decide)).1
  rw [e, show (1 : Int) = ((1 : Nat) : Int) from rfl, this, Nat.and_one_is_mod]
  rw [Bool.eq_iff_iff, beq_iff_eq, beq_iff_eq]
  omega

theorem has_in (S n : Nat) (w : World) (h : n < 1024) : Calls Tryd.prog 38 #[.agg (setA S), .int .i64 n] w fun e w' => e = .returned (.bool (has S n)) ∧ w' = w.alloc (.cells (setA S) 33) := by
  have hg := setA_get S (n / 64) (by omega)
  have hw := has_word S n
  have hl := wd_lt S (n / 64)
  generalize wd S (n / 64) = v at *
  have hh := has_nat S n
  have HW := Lib.hid hw
  have HH := Lib.hid hh
  clear hw hh
  go_enter Tryd.func38, Tryd.ntmps38
  go_wp2_with (go_at_call 41; refine (is_yes _ _ (by omega)).mono ?_; rintro e w' ⟨rfl, rfl⟩)
  go_ret
  refine ⟨ret_bool ?_, rfl⟩
  rw [HH.out, and_one _ _ hl, HW.out]
  cases S.testBit n <;> rfl
theorem has_calls (S : Nat) (hS : Sm S) (n : Int) (w : World) : Calls Tryd.prog 38 #[.agg (setA S), .int .i64 n] w fun e w' => e = .returned (.bool (has S n)) ∧ w' = w.alloc (.cells (setA S) 33) := by
  by_cases h : 0 ≤ n ∧ n < 1024
  · obtain ⟨m, rfl⟩ := Int.eq_ofNat_of_zero_le h.1
    exact has_in S m w (by omega)
  · have hh : has S n = false := by
      by_cases h0 : n < 0
      · exact has_neg S n h0
      · exact has_big hS (by omega)
    rw [hh]
    have HN := Lib.hid h
    clear hh h hS
    go_enter Tryd.func38, Tryd.ntmps38
    go_wp2_with (go_at_call 41; refine (is_no _ _ HN.out).mono ?_; rintro e w' ⟨rfl, rfl⟩)
    go_ret
    exact ⟨rfl, rfl⟩
end Go.Proofs.YtckmihjekgbcmaaDoor
