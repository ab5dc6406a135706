/- codec's fold and unfold. -/
import Derived.Test.YtckmihjekgbcmaaDoorCodes
namespace Go.Proofs.YtckmihjekgbcmaaDoor
open Go.RowKit Go.WideShapes Go.ChangeShapes
set_option linter.unusedSimpArgs false
set_option linter.unusedVariables false


theorem bvI {m : Nat} (h : m < 9223372036854775808) : (BitVec.ofInt IntKind.i64.bits (m : Int)).toNat = m := by
  simp [IntKind.bits]
  omega
theorem xorz_zero {m : Nat} (h : m < 9223372036854775808) : IntKind.i64.wrap ((BitVec.ofInt IntKind.i64.bits ((m : Nat) : Int) ^^^ BitVec.ofInt IntKind.i64.bits 0).toNat : Int) = ((m : Nat) : Int) := by
  rw [BitVec.toNat_xor, bvI h, show (BitVec.ofInt IntKind.i64.bits 0).toNat = 0 from rfl, Nat.xor_zero]
  exact IntWalk.i64_in _ (by omega)
theorem xorz_ones {m : Nat} (h : m < 9223372036854775808) : IntKind.i64.wrap ((BitVec.ofInt IntKind.i64.bits ((m : Nat) : Int) ^^^ BitVec.ofInt IntKind.i64.bits (-1)).toNat : Int) = -((m : Nat) : Int) - 1 := by
  rw [BitVec.toNat_xor, bvI h, show (BitVec.ofInt IntKind.i64.bits (-1)).toNat = 18446744073709551615 from rfl, xor_ones (by omega)]
  rw [show ((18446744073709551615 - m : Nat) : Int) = 18446744073709551615 - (m : Int) by omega, IntKind.wrap_i64]
  omega

attribute [local irreducible] Go.wpList Go.Code.wp
set_option maxRecDepth 100000 in
set_option maxHeartbeats 4000000 in
theorem fold_pos {q : Nat} (hq : q < 2 ^ 63) (w : World) : Calls Tryd.prog 26 #[.int .i64 (q : Int)] w fun e w' => e = .returned (.int .u64 (zig (q : Int) : Int)) ∧ Below w.heap.size w w' := by
  have bel : Below w.heap.size w w := Below.refl _ _
  go_enter Tryd.func26, Tryd.ntmps26
  refine wp_seq ?_
  refine wp_region_lit ?_
  refine st_mv (.int .u64 0) ?_
  simp only [nf0, nf1, nf2, nf3, nf4]
  refine wpList_nil ?_
  show Code.wp _ _ _ _ _
  refine wp_seq ?_
  refine wp_region_lit ?_
  refine st_mv (.int .i64 (q : Int)) ?_
  simp only [nf0, nf1, nf2, nf3, nf4]
  refine st_value (v := (.int .u64 ((q : Nat) : Int))) (by rfl) (run_conv_i64_u64 (.tmp 3) rfl Tryd.underlying3 Tryd.underlying31 (z := (q : Int)) (z' := ((q : Nat) : Int)) rfl (by rw [wrap_u64z]; omega) w) ?_
  simp only [nf0, nf1, nf2, nf3, nf4]
  refine st_value (v := (.int .u64 ((2 * q : Nat) : Int))) (by rfl) (run_shlW (.tmp 4) (.const (.int .u64 1)) rfl (m := q) (n := 1) rfl rfl (by omega) (r := (2 * q)) (by omega) w) ?_
  simp only [nf0, nf1, nf2, nf3, nf4]
  refine st_mv (.int .i64 (q : Int)) ?_
  simp only [nf0, nf1, nf2, nf3, nf4]
  refine st_value (v := (.int .i64 0)) (by rfl) (run_shrZ (.tmp 6) (.const (.int .u64 63)) rfl (z := (q : Int)) (n := 63) (z' := 0) rfl rfl (by omega) (by rw [Int.fdiv_eq_ediv_of_nonneg _ (by decide)]; omega) w) ?_
  simp only [nf0, nf1, nf2, nf3, nf4]
  refine st_value (v := (.int .u64 ((0 : Nat) : Int))) (by rfl) (run_conv_i64_u64 (.tmp 7) rfl Tryd.underlying3 Tryd.underlying31 (z := 0) (z' := ((0 : Nat) : Int)) rfl (by rw [wrap_u64z]; rfl) w) ?_
  simp only [nf0, nf1, nf2, nf3, nf4]
  refine st_value (v := (.int .u64 (((2 * q) ^^^ 0 : Nat) : Int))) (by rfl) (run_xorW (.tmp 5) (.tmp 8) rfl (m := (2 * q)) (n := 0) rfl rfl (by omega) (by omega) w) ?_
  simp only [nf0, nf1, nf2, nf3, nf4]
  refine st_mv (.int .u64 (((2 * q) ^^^ 0 : Nat) : Int)) ?_
  simp only [nf0, nf1, nf2, nf3, nf4]
  refine wpList_nil ?_
  show Code.wp _ _ _ _ _
  refine wp_ret ?_
  first | show bodyPost _ _ _ _ _ _ | (simp only [Exit.then, Exit.inBlock]; show bodyPost _ _ _ _ _ _)
  exact bodyPost_ret (results_tmp rfl _ _ _) rfl ⟨by exact congrArg (fun z : Nat => Ending.returned (.int .u64 (z : Int))) (show (2 * q) ^^^ 0 = zig (q : Int) by rw [Nat.xor_zero]; unfold zig; rw [if_pos (by omega)]; omega), bel⟩
set_option maxRecDepth 100000 in
set_option maxHeartbeats 4000000 in
theorem fold_neg {q : Nat} (hq : q < 2 ^ 63) (w : World) : Calls Tryd.prog 26 #[.int .i64 (-(q : Int) - 1)] w fun e w' => e = .returned (.int .u64 (zig (-(q : Int) - 1) : Int)) ∧ Below w.heap.size w w' := by
  have bel : Below w.heap.size w w := Below.refl _ _
  go_enter Tryd.func26, Tryd.ntmps26
  refine wp_seq ?_
  refine wp_region_lit ?_
  refine st_mv (.int .u64 0) ?_
  simp only [nf0, nf1, nf2, nf3, nf4]
  refine wpList_nil ?_
  show Code.wp _ _ _ _ _
  refine wp_seq ?_
  refine wp_region_lit ?_
  refine st_mv (.int .i64 (-(q : Int) - 1)) ?_
  simp only [nf0, nf1, nf2, nf3, nf4]
  refine st_value (v := (.int .u64 ((18446744073709551615 - q : Nat) : Int))) (by rfl) (run_conv_i64_u64 (.tmp 3) rfl Tryd.underlying3 Tryd.underlying31 (z := (-(q : Int) - 1)) (z' := ((18446744073709551615 - q : Nat) : Int)) rfl (by rw [wrap_u64z]; omega) w) ?_
  simp only [nf0, nf1, nf2, nf3, nf4]
  refine st_value (v := (.int .u64 ((18446744073709551614 - 2 * q : Nat) : Int))) (by rfl) (run_shlW (.tmp 4) (.const (.int .u64 1)) rfl (m := (18446744073709551615 - q)) (n := 1) rfl rfl (by omega) (r := (18446744073709551614 - 2 * q)) (by omega) w) ?_
  simp only [nf0, nf1, nf2, nf3, nf4]
  refine st_mv (.int .i64 (-(q : Int) - 1)) ?_
  simp only [nf0, nf1, nf2, nf3, nf4]
  refine st_value (v := (.int .i64 (-1))) (by rfl) (run_shrZ (.tmp 6) (.const (.int .u64 63)) rfl (z := (-(q : Int) - 1)) (n := 63) (z' := (-1)) rfl rfl (by omega) (by rw [Int.fdiv_eq_ediv_of_nonneg _ (by decide)]; omega) w) ?_
  simp only [nf0, nf1, nf2, nf3, nf4]
  refine st_value (v := (.int .u64 ((18446744073709551615 : Nat) : Int))) (by rfl) (run_conv_i64_u64 (.tmp 7) rfl Tryd.underlying3 Tryd.underlying31 (z := (-1)) (z' := ((18446744073709551615 : Nat) : Int)) rfl (by rw [wrap_u64z]; rfl) w) ?_
  simp only [nf0, nf1, nf2, nf3, nf4]
  refine st_value (v := (.int .u64 (((18446744073709551614 - 2 * q) ^^^ 18446744073709551615 : Nat) : Int))) (by rfl) (run_xorW (.tmp 5) (.tmp 8) rfl (m := (18446744073709551614 - 2 * q)) (n := 18446744073709551615) rfl rfl (by omega) (by omega) w) ?_
  simp only [nf0, nf1, nf2, nf3, nf4]
  refine st_mv (.int .u64 (((18446744073709551614 - 2 * q) ^^^ 18446744073709551615 : Nat) : Int)) ?_
  simp only [nf0, nf1, nf2, nf3, nf4]
  refine wpList_nil ?_
  show Code.wp _ _ _ _ _
  refine wp_ret ?_
  first | show bodyPost _ _ _ _ _ _ | (simp only [Exit.then, Exit.inBlock]; show bodyPost _ _ _ _ _ _)
  exact bodyPost_ret (results_tmp rfl _ _ _) rfl ⟨by exact congrArg (fun z : Nat => Ending.returned (.int .u64 (z : Int))) (show (18446744073709551614 - 2 * q) ^^^ 18446744073709551615 = zig (-(q : Int) - 1) by rw [xor_ones (by omega)]; unfold zig; rw [if_neg (by omega)]; omega), bel⟩
theorem fold_calls {n : Int} (hn : -9223372036854775808 ≤ n ∧ n ≤ 9223372036854775807) (w : World) : Calls Tryd.prog 26 #[.int .i64 n] w fun e w' => e = .returned (.int .u64 (zig n : Int)) ∧ Below w.heap.size w w' := by
  by_cases h : 0 ≤ n
  · obtain ⟨q, rfl⟩ : ∃ q : Nat, n = (q : Int) := ⟨n.toNat, by omega⟩
    exact fold_pos (by omega) w
  · obtain ⟨q, rfl⟩ : ∃ q : Nat, n = -(q : Int) - 1 := ⟨(-n - 1).toNat, by omega⟩
    exact fold_neg (by omega) w
set_option maxRecDepth 100000 in
set_option maxHeartbeats 4000000 in
theorem unfold_even {u : Nat} (hu : u < 2 ^ 64) (hr : u % 2 = 0) (w : World) : Calls Tryd.prog 27 #[.int .u64 (u : Int)] w fun e w' => e = .returned (.int .i64 (zag u)) ∧ Below w.heap.size w w' := by
  have bel : Below w.heap.size w w := Below.refl _ _
  go_enter Tryd.func27, Tryd.ntmps27
  refine wp_seq ?_
  refine wp_region_lit ?_
  refine st_mv (.int .i64 0) ?_
  simp only [nf0, nf1, nf2, nf3, nf4]
  refine wpList_nil ?_
  show Code.wp _ _ _ _ _
  refine wp_seq ?_
  refine wp_region_lit ?_
  refine st_mv (.int .u64 ((u : Nat) : Int)) ?_
  simp only [nf0, nf1, nf2, nf3, nf4]
  refine st_value (v := (.int .u64 ((u >>> 1 : Nat) : Int))) (by rfl) (run_shrW (.tmp 3) (.const (.int .u64 1)) rfl (m := u) (n := 1) rfl rfl (by omega) w) ?_
  simp only [nf0, nf1, nf2, nf3, nf4]
  refine st_value (v := (.int .i64 ((u / 2 : Nat) : Int))) (by rfl) (run_conv_u64_i64 (.tmp 4) rfl Tryd.underlying31 Tryd.underlying3 (z := ((u >>> 1 : Nat) : Int)) (z' := ((u / 2 : Nat) : Int)) rfl (by rw [Nat.shiftRight_eq_div_pow]; exact IntWalk.i64_in _ (by omega)) w) ?_
  simp only [nf0, nf1, nf2, nf3, nf4]
  refine st_mv (.int .u64 ((u : Nat) : Int)) ?_
  simp only [nf0, nf1, nf2, nf3, nf4]
  refine st_value (v := (.int .u64 ((u &&& 1 : Nat) : Int))) (by rfl) (run_andW (.tmp 6) (.const (.int .u64 1)) rfl (m := u) (n := 1) rfl rfl hu (by omega) w) ?_
  simp only [nf0, nf1, nf2, nf3, nf4]
  refine st_value (v := (.int .i64 0)) (by rfl) (run_conv_u64_i64 (.tmp 7) rfl Tryd.underlying31 Tryd.underlying3 (z := ((u &&& 1 : Nat) : Int)) (z' := 0) rfl (by rw [Nat.and_one_is_mod, hr]; rfl) w) ?_
  simp only [nf0, nf1, nf2, nf3, nf4]
  refine st_value (v := (.int .i64 0)) (by rfl) (run_negZ (.tmp 8) rfl (z := 0) (z' := 0) rfl (by rfl) w) ?_
  simp only [nf0, nf1, nf2, nf3, nf4]
  refine st_value (v := (.int .i64 ((u / 2 : Nat) : Int))) (by rfl) (run_xorZ (.tmp 5) (.tmp 9) rfl (u := ((u / 2 : Nat) : Int)) (v := 0) (z := ((u / 2 : Nat) : Int)) rfl rfl (xorz_zero (by omega)) w) ?_
  simp only [nf0, nf1, nf2, nf3, nf4]
  refine st_mv (.int .i64 ((u / 2 : Nat) : Int)) ?_
  simp only [nf0, nf1, nf2, nf3, nf4]
  refine wpList_nil ?_
  show Code.wp _ _ _ _ _
  refine wp_ret ?_
  first | show bodyPost _ _ _ _ _ _ | (simp only [Exit.then, Exit.inBlock]; show bodyPost _ _ _ _ _ _)
  exact bodyPost_ret (results_tmp rfl _ _ _) rfl ⟨by exact congrArg (fun z : Int => Ending.returned (.int .i64 z)) (show ((u / 2 : Nat) : Int) = zag u by unfold zag; rw [if_pos (by omega)]), bel⟩
set_option maxRecDepth 100000 in
set_option maxHeartbeats 4000000 in
theorem unfold_odd {u : Nat} (hu : u < 2 ^ 64) (hr : u % 2 = 1) (w : World) : Calls Tryd.prog 27 #[.int .u64 (u : Int)] w fun e w' => e = .returned (.int .i64 (zag u)) ∧ Below w.heap.size w w' := by
  have bel : Below w.heap.size w w := Below.refl _ _
  go_enter Tryd.func27, Tryd.ntmps27
  refine wp_seq ?_
  refine wp_region_lit ?_
  refine st_mv (.int .i64 0) ?_
  simp only [nf0, nf1, nf2, nf3, nf4]
  refine wpList_nil ?_
  show Code.wp _ _ _ _ _
  refine wp_seq ?_
  refine wp_region_lit ?_
  refine st_mv (.int .u64 ((u : Nat) : Int)) ?_
  simp only [nf0, nf1, nf2, nf3, nf4]
  refine st_value (v := (.int .u64 ((u >>> 1 : Nat) : Int))) (by rfl) (run_shrW (.tmp 3) (.const (.int .u64 1)) rfl (m := u) (n := 1) rfl rfl (by omega) w) ?_
  simp only [nf0, nf1, nf2, nf3, nf4]
  refine st_value (v := (.int .i64 ((u / 2 : Nat) : Int))) (by rfl) (run_conv_u64_i64 (.tmp 4) rfl Tryd.underlying31 Tryd.underlying3 (z := ((u >>> 1 : Nat) : Int)) (z' := ((u / 2 : Nat) : Int)) rfl (by rw [Nat.shiftRight_eq_div_pow]; exact IntWalk.i64_in _ (by omega)) w) ?_
  simp only [nf0, nf1, nf2, nf3, nf4]
  refine st_mv (.int .u64 ((u : Nat) : Int)) ?_
  simp only [nf0, nf1, nf2, nf3, nf4]
  refine st_value (v := (.int .u64 ((u &&& 1 : Nat) : Int))) (by rfl) (run_andW (.tmp 6) (.const (.int .u64 1)) rfl (m := u) (n := 1) rfl rfl hu (by omega) w) ?_
  simp only [nf0, nf1, nf2, nf3, nf4]
  refine st_value (v := (.int .i64 1)) (by rfl) (run_conv_u64_i64 (.tmp 7) rfl Tryd.underlying31 Tryd.underlying3 (z := ((u &&& 1 : Nat) : Int)) (z' := 1) rfl (by rw [Nat.and_one_is_mod, hr]; rfl) w) ?_
  simp only [nf0, nf1, nf2, nf3, nf4]
  refine st_value (v := (.int .i64 (-1))) (by rfl) (run_negZ (.tmp 8) rfl (z := 1) (z' := (-1)) rfl (by rfl) w) ?_
  simp only [nf0, nf1, nf2, nf3, nf4]
  refine st_value (v := (.int .i64 (-((u / 2 : Nat) : Int) - 1))) (by rfl) (run_xorZ (.tmp 5) (.tmp 9) rfl (u := ((u / 2 : Nat) : Int)) (v := (-1)) (z := (-((u / 2 : Nat) : Int) - 1)) rfl rfl (xorz_ones (by omega)) w) ?_
  simp only [nf0, nf1, nf2, nf3, nf4]
  refine st_mv (.int .i64 (-((u / 2 : Nat) : Int) - 1)) ?_
  simp only [nf0, nf1, nf2, nf3, nf4]
  refine wpList_nil ?_
  show Code.wp _ _ _ _ _
  refine wp_ret ?_
  first | show bodyPost _ _ _ _ _ _ | (simp only [Exit.then, Exit.inBlock]; show bodyPost _ _ _ _ _ _)
  exact bodyPost_ret (results_tmp rfl _ _ _) rfl ⟨by exact congrArg (fun z : Int => Ending.returned (.int .i64 z)) (show (-((u / 2 : Nat) : Int) - 1) = zag u by unfold zag; rw [if_neg (by omega)]), bel⟩
theorem unfold_calls {u : Nat} (hu : u < 2 ^ 64) (w : World) : Calls Tryd.prog 27 #[.int .u64 (u : Int)] w fun e w' => e = .returned (.int .i64 (zag u)) ∧ Below w.heap.size w w' := by
  rcases Nat.mod_two_eq_zero_or_one u with h | h
  · exact unfold_even hu h w
  · exact unfold_odd hu h w
end Go.Proofs.YtckmihjekgbcmaaDoor
