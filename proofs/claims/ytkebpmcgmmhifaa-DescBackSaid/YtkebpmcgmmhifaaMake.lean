/- What cpuset's Of, Range, Within and Meets and the reference's Make do. -/
import Derived.Test.YtkebpmcgmmhifaaBits
import Derived.Test.YtkebpmcgmmhifaaBlk
namespace Go.Proofs.Ytkebpmcgmmhifaa
open Go.RowKit Go.WideShapes Go.ChangeShapes

/-- The set of those of some numbers that are workers'. -/
def mk (l : List Int) : Nat := l.foldl put 0
theorem mk_snoc (l : List Int) (n : Int) : mk (l ++ [n]) = put (mk l) n := by simp [mk]
theorem mk_take (l : List Int) (k : Nat) (h : k < l.length) : mk (l.take (k + 1)) = put (mk (l.take k)) (nth l k) := by
  rw [List.take_succ_eq_append_getElem h, mk_snoc]
  simp [nth, h]
theorem mk_sm (l : List Int) : Sm (mk l) := by
  have : ∀ (l : List Int) (S : Nat), Sm S → Sm (l.foldl put S) := by
    intro l
    induction l with
    | nil => exact fun _ h => h
    | cons n l ih => exact fun S h => ih _ (put_sm h n)
  exact this l 0 sm_zero
theorem testBit_mk (l : List Int) (m : Nat) : (mk l).testBit m = decide (m < 1024 ∧ (m : Int) ∈ l) := by
  have : ∀ (l : List Int) (S : Nat), (l.foldl put S).testBit m = (S.testBit m || decide (m < 1024 ∧ (m : Int) ∈ l)) := by
    intro l
    induction l with
    | nil => simp
    | cons n l ih =>
      intro S
      rw [List.foldl_cons, ih, testBit_put, Bool.or_assoc]
      congr 1
      rw [← Bool.decide_or, decide_eq_decide]
      simp only [List.mem_cons]
      constructor
      · rintro (⟨h1, h2⟩ | ⟨h1, h2⟩)
        · exact ⟨by omega, .inl h1⟩
        · exact ⟨h1, .inr h2⟩
      · rintro ⟨h1, h2 | h2⟩
        · exact .inl ⟨h2, by omega⟩
        · exact .inr ⟨h1, h2⟩
  rw [mk, this, Nat.zero_testBit, Bool.false_or]

theorem setA_zero : setA 0 = #[.int .u64 0, .int .u64 0, .int .u64 0, .int .u64 0, .int .u64 0, .int .u64 0, .int .u64 0, .int .u64 0, .int .u64 0, .int .u64 0, .int .u64 0, .int .u64 0, .int .u64 0, .int .u64 0, .int .u64 0, .int .u64 0] := rfl

/-- Adding a bit that is not there is or. -/
theorem add_bit (v k : Nat) (hk : k < 64) (hv : v < 2 ^ 64) (h : v.testBit k = false) : IntKind.u64.wrap ((v : Int) + IntKind.u64.wrap (2 ^ k)) = ((v ||| 2 ^ k : Nat) : Int) := by
  have hp : (2 : Nat) ^ k < 2 ^ 64 := pow64 hk
  have e1 : IntKind.u64.wrap (2 ^ k) = ((2 ^ k : Nat) : Int) := by rw [wraps_u64 _ (Int.pow_nonneg (by omega)) (by exact_mod_cast hp)]; simp
  have e2 : v + 2 ^ k = v ||| 2 ^ k := by
    have a : v &&& 2 ^ k = 0 := by
      refine Nat.eq_of_testBit_eq fun i => ?_
      rw [Nat.testBit_and, Nat.testBit_two_pow, Nat.zero_testBit]
      by_cases e : k = i
      · subst e; rw [h, Bool.false_and]
      · simp [e]
    have b := BitVec.add_eq_or_of_and_eq_zero (BitVec.ofNat 65 v) (BitVec.ofNat 65 (2 ^ k)) (by
      apply BitVec.eq_of_toNat_eq
      simp only [BitVec.toNat_and, BitVec.toNat_ofNat]
      rw [Nat.mod_eq_of_lt (by omega), Nat.mod_eq_of_lt (by omega), a])
    have c := congrArg BitVec.toNat b
    simp only [BitVec.toNat_add, BitVec.toNat_or, BitVec.toNat_ofNat] at c
    rw [Nat.mod_eq_of_lt (a := v) (by omega), Nat.mod_eq_of_lt (a := 2 ^ k) (by omega), Nat.mod_eq_of_lt (by omega)] at c
    exact c
  rw [e1, ← e2]
  have : v ||| 2 ^ k < 2 ^ 64 := Nat.or_lt_two_pow hv hp
  rw [wraps_u64]
  · simp
  · omega
  · rw [← e2] at this; omega

theorem put_has {S : Nat} {n : Int} (h : has S n = true) : put S n = S := by
  refine Nat.eq_of_testBit_eq fun m => ?_
  rw [testBit_put]
  simp only [has, Bool.and_eq_true, decide_eq_true_eq] at h
  by_cases e : (m : Int) = n
  · subst e; simp at h; rw [h]; simp
  · simp [e]

end Go.Proofs.Ytkebpmcgmmhifaa
