/- What cpuset's Of, Range, Within and Meets and the reference's Make do. -/
import Derived.Test.YtckmihjekgbcmaaDoorBits
import Derived.Test.YtckmihjekgbcmaaDoorBlk
namespace Go.Proofs.YtckmihjekgbcmaaDoor
open Go.RowKit Go.WideShapes Go.ChangeShapes

/-- The set of those of some numbers that are workers'. -/
def mk (l : List Int) : Nat := l.foldl put 0
theorem mk_snoc (l : List Int) (n : Int) : mk (l ++ [n]) = put (mk l) n := by simp [mk]
theorem mk_take (l : List Int) (k : Nat) (h : k < l.length) : mk (l.take (k + 1)) = put (mk (l.take k)) (nth l k) := by
  rw [List.take_succ_eq_append_getElem h, mk_snoc]
  simp [nth, h]
theorem mk_sm (l : List Int) : Sm (mk l) := by
  have : ∀ (l : List Int) (S : Nat), Sm S → Sm (l.foldl put S) := by
    intro l
    induction l with
    | nil => exact fun _ h => h
    | cons n l ih => exact fun S h => ih _ (put_sm h n)
  exact this l 0 sm_zero
theorem testBit_mk (l : List Int) (m : Nat) : (mk l).testBit m = decide (m < 1024 ∧ (m : Int) ∈ l) := by
  have : ∀ (l : List Int) (S : Nat), (l.foldl put S).testBit m = (S.testBit m || decide (m < 1024 ∧ (m : Int) ∈ l)) := by
    intro l
    induction l with
    | nil => simp
    | cons n l ih =>
      intro S
      rw [List.foldl_cons, ih, testBit_put, Bool.or_assoc]
      congr 1
      rw [← Bool.decide_or, decide_eq_decide]
      simp only [List.mem_cons]
      constructor
      · rintro (⟨h1, h2⟩ | ⟨h1, h2⟩)
        · exact ⟨by omega, .inl h1⟩
        · exact ⟨h1, .inr h2⟩
      · rintro ⟨h1, h2 | h2⟩
        · exact .inl ⟨h2, by omega⟩
        · exact .inr ⟨h1, h2⟩
  rw [mk, this, Nat.zero_testBit, Bool.false_or]

theorem setA_zero : setA 0 = #[.int .u64 0, .int .u64 0, .int .u64 0, .int .u64 0, .int .u64 0, .int .u64 0, .int .u64 0, .int .u64 0, .int .u64 0, .int .u64 0, .int .u64 0, .int .u64 0, .int .u64 0, .int .u64 0, .int .u64 0, .int .u64 0] := rfl

/-- '==' of two sets; of a set and the empty one. -/
theorem run_eqS {S T : Nat} (hS : Sm S) (hT : Sm T) : ∀ w, (Op.equalIn 10000 33 (.agg (setA S)) (.agg (setA T))).run Tryd.prog w = .ok (decide (S = T)) w :=
  fun w => run_eq_set Tryd.underlying33 Tryd.underlying31 (by kernel_rfl) (by kernel_rfl) 9998 hS hT w
theorem run_eqS0 {S : Nat} (hS : Sm S) : ∀ w, (Op.equalIn 10000 33 (.agg (setA S)) (.agg #[.int .u64 0, .int .u64 0, .int .u64 0, .int .u64 0, .int .u64 0, .int .u64 0, .int .u64 0, .int .u64 0, .int .u64 0, .int .u64 0, .int .u64 0, .int .u64 0, .int .u64 0, .int .u64 0, .int .u64 0, .int .u64 0])).run Tryd.prog w = .ok (decide (S = 0)) w := by
  rw [← setA_zero]
  exact run_eqS hS sm_zero

/-- Adding a bit that is not there is or. -/
theorem add_bit (v k : Nat) (hk : k < 64) (hv : v < 2 ^ 64) (h : v.testBit k = false) : IntKind.u64.wrap ((v : Int) + IntKind.u64.wrap (2 ^ k)) = ((v ||| 2 ^ k : Nat) : Int) := by
  have hp : (2 : Nat) ^ k < 2 ^ 64 := pow64 hk
  have e1 : IntKind.u64.wrap (2 ^ k) = ((2 ^ k : Nat) : Int) := by rw [wraps_u64 _ (Int.pow_nonneg (by omega)) (by exact_mod_cast hp)]; simp
  have e2 : v + 2 ^ k = v ||| 2 ^ k := by
    have a : v &&& 2 ^ k = 0 := by
      refine Nat.eq_of_testBit_eq fun i => ?_
      rw [Nat.testBit_and, Nat.testBit_two_pow, Nat.zero_testBit]
      by_cases e : k = i
      · subst e; rw [h, Bool.false_and]
      · simp [e]
    have b := BitVec.add_eq_or_of_and_eq_zero (BitVec.ofNat 65 v) (BitVec.ofNat 65 (2 ^ k)) (by
      apply BitVec.eq_of_toNat_eq
      simp only [BitVec.toNat_and, BitVec.toNat_ofNat]
      rw [Nat.mod_eq_of_lt (by omega), Nat.mod_eq_of_lt (by omega), a])
    have c := congrArg BitVec.toNat b
    simp only [BitVec.toNat_add, BitVec.toNat_or, BitVec.toNat_ofNat] at c
    rw [Nat.mod_eq_of_lt (a := v) (by omega), Nat.mod_eq_of_lt (a := 2 ^ k) (by omega), Nat.mod_eq_of_lt (by omega)] at c
    exact c
  rw [e1, ← e2]
  have : v ||| 2 ^ k < 2 ^ 64 := Nat.or_lt_two_pow hv hp
  rw [wraps_u64]
  · simp
  · omega
  · rw [← e2] at this; omega

def MakeRel (w : World) (xs : List Int) (i : Value) (wr : World) : Prop :=
  ∃ k : Nat, k ≤ xs.length ∧ i = .int .i64 k ∧ Blk wr (w.heap.size + 1) (setA (mk (xs.take k))) 33 ∧ (∃ old, Blk wr w.heap.size old 33 ∧ old.size = 16) ∧ Below w.heap.size w wr

theorem put_has {S : Nat} {n : Int} (h : has S n = true) : put S n = S := by
  refine Nat.eq_of_testBit_eq fun m => ?_
  rw [testBit_put]
  simp only [has, Bool.and_eq_true, decide_eq_true_eq] at h
  by_cases e : (m : Int) = n
  · subst e; simp at h; rw [h]; simp
  · simp [e]

set_option maxRecDepth 100000 in
set_option maxHeartbeats 400000 in
theorem make_calls (A : Option Addr) (xs : List Int) (cap : Nat) (w : World) (hr : Reads w A (xs.map (Value.int .i64))) (hl : xs.length ≤ 9223372036854775807) :
    Calls Tryd.prog 28 #[.slice A xs.length cap] w fun e w' => e = .returned (.agg (setA (mk xs))) ∧ Below w.heap.size w w' := by
  go_enter Tryd.func28, Tryd.ntmps28
  go_wp2
  go_loopw [5, 8] (fun _ i wr => MakeRel w xs i wr) (fun _ i _ => xs.length - (intOf i).toNat)
  case atStart =>
    refine ⟨0, Nat.zero_le _, rfl, ?_, ⟨_, heap_alloc2_old _ _ _, rfl⟩, bl_alloc (bl_alloc (Below.refl _ _) _) _⟩
    rw [List.take_zero, show mk [] = 0 from rfl, setA_zero]
    exact heap_alloc2_new _ _ _
  case round =>
    obtain ⟨k, hk, rfl, hA, ⟨old, hB, hold⟩, bel⟩ := hrel
    have HA := Lib.hid hA
    have HB := Lib.hid hB
    have HO := Lib.hid hold
    clear hA hB hold
    by_cases hlt : k < xs.length
    · obtain ⟨b, off, rfl, hc⟩ := (hr.same bel).at_ (by simp; omega)
      have hcell := Reads.int_at hc k hlt
      have HT := Lib.hid (mk_take xs k hlt)
      have hz := bel.size
      have hsm := mk_sm (xs.take k)
      clear hc
      generalize mk (xs.take k) = S at *
      generalize nth xs k = n at *
      by_cases hin : 0 ≤ n ∧ n < 1024
      · obtain ⟨h0, h1⟩ := hin
        have h1 : n ≤ 1023 := by omega
        obtain ⟨n, rfl⟩ := Int.eq_ofNat_of_zero_le h0
        cases hh : has S n with
        | true =>
          have HH := Lib.hid hh
          clear hh
          go_wp2_with (first
            | (refine wpl_load_setG (.tmp 3) rfl rfl _ rfl S HA.out ?_)
            | (go_at_call 33; refine (refHas_calls _ hsm _ _).mono ?_; rintro e w' ⟨rfl, rfl⟩; rw [HH.out]))
          go_roundw
          case rel => exact ⟨k + 1, by omega, by go_num, by rw [HT.out, put_has HH.out]; exact HA.out.alloc _, ⟨old, HB.out.alloc _, HO.out⟩, bl_alloc bel _⟩
          case measure => simp [intOf]; omega
        | false =>
          have HH := Lib.hid hh
          have hb : S.testBit n = false := by rw [← has_nat]; exact hh
          clear hh
          have hg : wr.cell? ⟨w.heap.size + 1, n / 64, none⟩ = some (.int .u64 (wd S (n / 64))) := by rw [HA.out.cell, setA_get _ _ (by omega)]
          have hf : wr.frozen? ⟨w.heap.size + 1, n / 64, none⟩ = false := HA.out.free _
          have hs : (setA S).setIfInBounds (n / 64) (.int .u64 (wd S (n / 64) ||| 2 ^ (n % 64) : Nat)) = setA (put S n) := setA_set (wd_put S n (by omega)) (fun j _ hj => wd_put_other S n j hj)
          have hadd := add_bit (wd S (n / 64)) (n % 64) (by omega) (wd_lt _ _) (by rw [testBit_wd, show 64 * (n / 64) + n % 64 = n from by omega, hb, Bool.and_false])
          have HADD := Lib.hid hadd
          have HS := Lib.hid hs
          clear hadd hs hb
          have hzz := HA.out.lt
          go_wp2_with (first
            | (refine wpl_load_setG (.tmp 3) rfl rfl _ rfl S HA.out ?_)
            | (go_at_call 33; refine (refHas_calls _ hsm _ _).mono ?_; rintro e w' ⟨rfl, rfl⟩; rw [HH.out]))
          go_region
          rw [HADD.out]
          go_wp2
          go_roundw
          case rel =>
            refine ⟨k + 1, by omega, by go_num, ?_, ⟨old, ?_, HO.out⟩, ?_⟩
            · rw [HT.out, ← HS.out]; exact ((HA.out.set _ _).alloc _).drew
            · exact ((HB.out.far _ _ (by simp)).alloc _).drew
            · exact bl_drew (bl_alloc (bel.setCell (by simp) _) _)
          case measure => simp [intOf]; omega
      · have HN := Lib.hid (put_out hin : put S n = S)
        by_cases h0 : n < 0
        · go_wp2
          go_roundw
          case rel => exact ⟨k + 1, by omega, by go_num, by rw [HT.out, HN.out]; exact HA.out, ⟨old, HB.out, HO.out⟩, bel⟩
          case measure => simp [intOf]; omega
        · have h1 : 1023 < n := by omega
          go_wp2
          go_roundw
          case rel => exact ⟨k + 1, by omega, by go_num, by rw [HT.out, HN.out]; exact HA.out, ⟨old, HB.out, HO.out⟩, bel⟩
          case measure => simp [intOf]; omega
    · obtain rfl : k = xs.length := by omega
      rw [List.take_length] at HA
      go_wp2_with (first
        | (refine wpl_load_set (.tmp 3) rfl rfl _ rfl _ HA.out ?_)
        | (refine wpl_store_set (.tmp 2) (.tmp 34) rfl rfl _ rfl _ rfl HB.out HO.out ?_))
      exact bodyPost_ret (res_set rfl _ _ _ (mk xs) rfl (setRow_heap _ _ _ _ _ _ HB.out)) rfl ⟨rfl, bl_setRow bel _ (by omega) _⟩
end Go.Proofs.YtckmihjekgbcmaaDoor
