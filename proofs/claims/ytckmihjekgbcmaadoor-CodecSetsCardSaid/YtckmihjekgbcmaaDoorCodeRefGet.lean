/- The document's Get. -/
import Derived.Test.YtckmihjekgbcmaaDoorCodeRefs
namespace Go.Proofs.YtckmihjekgbcmaaDoor
open Go.RowKit Go.WideShapes Go.ChangeShapes
set_option linter.unusedSimpArgs false
set_option linter.unusedVariables false


theorem halfI {m : Nat} (h : m < 2 ^ 64) : IntKind.i64.wrap ((m / 2 : Nat) : Int) = ((m / 2 : Nat) : Int) := IntWalk.i64_in _ (by omega)
theorem halfN {m : Nat} (h : m < 2 ^ 64) : IntKind.i64.wrap (0 - ((m / 2 : Nat) : Int)) = -((m / 2 : Nat) : Int) := by rw [Int.zero_sub]; exact IntWalk.i64_in _ (by omega)

attribute [local irreducible] Go.wpList Go.Code.wp
set_option maxRecDepth 100000 in
set_option maxHeartbeats 4000000 in
theorem refGet_out {A : Option Addr} (l : List UInt8) (cap : Nat) {i : Int} (hi : i < 0 ∨ (l.length : Int) < i) (w : World) : Calls Tryd.prog 9 #[.slice A l.length cap, .int .i64 i] w fun e w' => e = .returned (.tuple #[.int .i64 0, .int .i64 0]) ∧ Below w.heap.size w w' := by
  have bel : Below w.heap.size w w := Below.refl _ _
  go_enter Tryd.func9, Tryd.ntmps9
  refine wp_seq ?_
  refine wp_region_lit ?_
  refine st_mv (.int .i64 0) ?_
  simp only [nf0, nf1, nf2, nf3, nf4]
  refine st_mv (.int .i64 0) ?_
  simp only [nf0, nf1, nf2, nf3, nf4]
  refine wpList_nil ?_
  show Code.wp _ _ _ _ _
  refine wp_seq ?_
  refine wp_seq ?_
  cases hg1 : decide (i < 0)
  rotate_left
  · have hp6 := of_decide_eq_true hg1
    refine wp_region_lit ?_
    refine st_mv (.int .i64 i) ?_
    simp only [nf0, nf1, nf2, nf3, nf4]
    refine st_value (v := (.bool true)) (by rfl) ((run_lss (.tmp 12) (.const (.int .i64 0)) rfl rfl rfl w).trans (by rw [hg1])) ?_
    simp only [nf0, nf1, nf2, nf3, nf4]
    refine st_mv (.bool true) ?_
    simp only [nf0, nf1, nf2, nf3, nf4]
    refine st_nob (j := 2) (t := 14) (c := true) rfl rfl rfl rfl rfl ?_
    simp only [nf0, nf1, nf2, nf3, nf4]
    refine st_nob (j := 2) (t := 14) (c := true) rfl rfl rfl rfl rfl ?_
    simp only [nf0, nf1, nf2, nf3, nf4]
    refine st_nob (j := 2) (t := 14) (c := true) rfl rfl rfl rfl rfl ?_
    simp only [nf0, nf1, nf2, nf3, nf4]
    refine st_nob (j := 2) (t := 14) (c := true) rfl rfl rfl rfl rfl ?_
    simp only [nf0, nf1, nf2, nf3, nf4]
    refine st_mv (.bool true) ?_
    simp only [nf0, nf1, nf2, nf3, nf4]
    refine wpList_nil ?_
    show Code.wp _ _ _ _ _
    refine wp_cond_true rfl ?_
    refine wp_seq ?_
    refine wp_region_lit ?_
    refine st_mv (.int .i64 0) ?_
    simp only [nf0, nf1, nf2, nf3, nf4]
    refine st_mv (.int .i64 0) ?_
    simp only [nf0, nf1, nf2, nf3, nf4]
    refine wpList_nil ?_
    show Code.wp _ _ _ _ _
    refine wp_ret ?_
    first | show bodyPost _ _ _ _ _ _ | (simp only [Exit.then, Exit.inBlock]; show bodyPost _ _ _ _ _ _)
    exact bodyPost_ret (results_tmp2 rfl _ _ _) rfl ⟨rfl, bel⟩
  have hp2 := of_decide_eq_false hg1
  refine wp_region_lit ?_
  refine st_mv (.int .i64 i) ?_
  simp only [nf0, nf1, nf2, nf3, nf4]
  refine st_value (v := (.bool false)) (by rfl) ((run_lss (.tmp 12) (.const (.int .i64 0)) rfl rfl rfl w).trans (by rw [hg1])) ?_
  simp only [nf0, nf1, nf2, nf3, nf4]
  refine st_mv (.bool false) ?_
  simp only [nf0, nf1, nf2, nf3, nf4]
  refine st_mv (.int .i64 i) ?_
  simp only [nf0, nf1, nf2, nf3, nf4]
  refine st_mv (.slice A l.length cap) ?_
  simp only [nf0, nf1, nf2, nf3, nf4]
  refine st_value (v := (.int .i64 (l.length : Int))) (by rfl) (run_len (.tmp 16) rfl ⟨_, Tryd.underlying22⟩ rfl w) ?_
  simp only [nf0, nf1, nf2, nf3, nf4]
  refine st_value (v := (.bool (decide ((l.length : Int) < i)))) (by rfl) (run_gtr (.tmp 15) (.tmp 17) rfl rfl rfl w) ?_
  simp only [nf0, nf1, nf2, nf3, nf4]
  refine st_mv (.bool (decide ((l.length : Int) < i))) ?_
  simp only [nf0, nf1, nf2, nf3, nf4]
  refine wpList_nil ?_
  show Code.wp _ _ _ _ _
  cases hg3 : decide ((l.length : Int) < i)
  · have hp4 := of_decide_eq_false hg3
    exfalso
    omega
  have hp5 := of_decide_eq_true hg3
  refine wp_cond_true rfl ?_
  refine wp_seq ?_
  refine wp_region_lit ?_
  refine st_mv (.int .i64 0) ?_
  simp only [nf0, nf1, nf2, nf3, nf4]
  refine st_mv (.int .i64 0) ?_
  simp only [nf0, nf1, nf2, nf3, nf4]
  refine wpList_nil ?_
  show Code.wp _ _ _ _ _
  refine wp_ret ?_
  first | show bodyPost _ _ _ _ _ _ | (simp only [Exit.then, Exit.inBlock]; show bodyPost _ _ _ _ _ _)
  exact bodyPost_ret (results_tmp2 rfl _ _ _) rfl ⟨rfl, bel⟩
set_option maxRecDepth 100000 in
set_option maxHeartbeats 4000000 in
theorem refGet_in (A : Option Addr) (l : List UInt8) (cap p : Nat) (hcap : l.length ≤ cap) (hl : l.length ≤ 10000000) (hp : p ≤ l.length) (w : World) (hr : Reads w A (eByte.all l)) : Calls Tryd.prog 9 #[.slice A l.length cap, .int .i64 (p : Int)] w fun e w' => e = .returned (gres2 (getAt l p)) ∧ Below w.heap.size w w' := by
  have bel : Below w.heap.size w w := Below.refl _ _
  have hZ : ((l.drop p).take 10).length ≤ 10 := by rw [List.length_take]; omega
  go_enter Tryd.func9, Tryd.ntmps9
  refine wp_seq ?_
  refine wp_region_lit ?_
  refine st_mv (.int .i64 0) ?_
  simp only [nf0, nf1, nf2, nf3, nf4]
  refine st_mv (.int .i64 0) ?_
  simp only [nf0, nf1, nf2, nf3, nf4]
  refine wpList_nil ?_
  show Code.wp _ _ _ _ _
  refine wp_seq ?_
  refine wp_seq ?_
  cases hg1 : decide ((p : Int) < 0)
  rotate_left
  · have hp62 := of_decide_eq_true hg1
    exfalso
    omega
  have hp2 := of_decide_eq_false hg1
  refine wp_region_lit ?_
  refine st_mv (.int .i64 (p : Int)) ?_
  simp only [nf0, nf1, nf2, nf3, nf4]
  refine st_value (v := (.bool false)) (by rfl) ((run_lss (.tmp 12) (.const (.int .i64 0)) rfl rfl rfl w).trans (by rw [hg1])) ?_
  simp only [nf0, nf1, nf2, nf3, nf4]
  refine st_mv (.bool false) ?_
  simp only [nf0, nf1, nf2, nf3, nf4]
  refine st_mv (.int .i64 (p : Int)) ?_
  simp only [nf0, nf1, nf2, nf3, nf4]
  refine st_mv (.slice A l.length cap) ?_
  simp only [nf0, nf1, nf2, nf3, nf4]
  refine st_value (v := (.int .i64 (l.length : Int))) (by rfl) (run_len (.tmp 16) rfl ⟨_, Tryd.underlying22⟩ rfl w) ?_
  simp only [nf0, nf1, nf2, nf3, nf4]
  refine st_value (v := (.bool (decide ((l.length : Int) < (p : Int))))) (by rfl) (run_gtr (.tmp 15) (.tmp 17) rfl rfl rfl w) ?_
  simp only [nf0, nf1, nf2, nf3, nf4]
  refine st_mv (.bool (decide ((l.length : Int) < (p : Int)))) ?_
  simp only [nf0, nf1, nf2, nf3, nf4]
  refine wpList_nil ?_
  show Code.wp _ _ _ _ _
  cases hg3 : decide ((l.length : Int) < (p : Int))
  rotate_left
  · have hp61 := of_decide_eq_true hg3
    exfalso
    omega
  have hp4 := of_decide_eq_false hg3
  refine wp_cond_false rfl ?_
  refine wp_skip ?_
  show Code.wp _ _ _ _ _
  refine wp_seq ?_
  refine wp_region_lit ?_
  refine st_mv (.int .u64 0) ?_
  simp only [nf0, nf1, nf2, nf3, nf4]
  refine wpList_nil ?_
  show Code.wp _ _ _ _ _
  refine wp_seq ?_
  refine wp_seq ?_
  refine wp_region_lit ?_
  refine st_mv (.int .i64 0) ?_
  simp only [nf0, nf1, nf2, nf3, nf4]
  refine wpList_nil ?_
  show Code.wp _ _ _ _ _
  refine wp_block ?_
  refine wp_loop_left (fun n_ a_ wr_ => (fun J5 => ∃ (k : Nat) (u : Nat), n_ = 10 - k ∧ a_ = ⟨#[.slice A l.length cap, .int .i64 (p : Int), J5 2, J5 3, J5 4, J5 5, .int .u64 ((u : Nat) : Int), .int .i64 (k : Int), J5 8, J5 9, J5 10, J5 11, J5 12, J5 13, J5 14, J5 15, J5 16, J5 17, J5 18, J5 19, J5 20, J5 21, J5 22, J5 23, J5 24, J5 25, J5 26, J5 27, J5 28, J5 29, J5 30, J5 31, J5 32, J5 33, J5 34, J5 35, J5 36, J5 37, J5 38, J5 39, J5 40, J5 41, J5 42, J5 43, J5 44, J5 45, J5 46, J5 47, J5 48, J5 49, J5 50, J5 51, J5 52, J5 53, J5 54, J5 55, J5 56, J5 57, J5 58, J5 59, J5 60, J5 61, J5 62, J5 63, J5 64, J5 65, J5 66, J5 67, J5 68, J5 69, J5 70, J5 71, J5 72, J5 73, J5 74, J5 75, J5 76], []⟩ ∧ Below w.heap.size w wr_ ∧ (k ≤ 9) ∧ (Rdh ((l.drop p).take 10) k u)) (jk a_)) (10 - 0) ⟨0, 0, rfl, rfl, bel, (by omega), (rdh_start _)⟩ ?_
  clear bel
  intro n_ a_ w6 h_
  revert h_
  generalize jk a_ = J5
  rintro ⟨k, u, hms, rfl, bel, hk, hs⟩
  refine wp_seq ?_
  refine wp_seq ?_
  cases hg7 : decide ((k : Int) < 10)
  · have hp8 := of_decide_eq_false hg7
    exfalso
    omega
  have hp9 := of_decide_eq_true hg7
  refine wp_region_lit ?_
  refine st_mv (.int .i64 (k : Int)) ?_
  simp only [nf0, nf1, nf2, nf3, nf4]
  refine st_value (v := (.bool true)) (by rfl) ((run_lss (.tmp 20) (.const (.int .i64 10)) rfl rfl rfl w6).trans (by rw [hg7])) ?_
  simp only [nf0, nf1, nf2, nf3, nf4]
  refine st_mv (.bool true) ?_
  simp only [nf0, nf1, nf2, nf3, nf4]
  refine st_mv (.int .i64 (p : Int)) ?_
  simp only [nf0, nf1, nf2, nf3, nf4]
  refine st_mv (.int .i64 (k : Int)) ?_
  simp only [nf0, nf1, nf2, nf3, nf4]
  refine st_value (v := (.int .i64 ((p : Int) + (k : Int)))) (by rfl) (run_add_in (.tmp 23) (.tmp 24) rfl rfl rfl (by omega) w6) ?_
  simp only [nf0, nf1, nf2, nf3, nf4]
  refine st_mv (.slice A l.length cap) ?_
  simp only [nf0, nf1, nf2, nf3, nf4]
  refine st_value (v := (.int .i64 (l.length : Int))) (by rfl) (run_len (.tmp 26) rfl ⟨_, Tryd.underlying22⟩ rfl w6) ?_
  simp only [nf0, nf1, nf2, nf3, nf4]
  refine st_value (v := (.bool (decide (((p : Int) + (k : Int)) < (l.length : Int))))) (by rfl) (run_lss (.tmp 25) (.tmp 27) rfl rfl rfl w6) ?_
  simp only [nf0, nf1, nf2, nf3, nf4]
  refine st_mv (.bool (decide (((p : Int) + (k : Int)) < (l.length : Int)))) ?_
  simp only [nf0, nf1, nf2, nf3, nf4]
  refine wpList_nil ?_
  show Code.wp _ _ _ _ _
  cases hg10 : decide (((p : Int) + (k : Int)) < (l.length : Int))
  · have hp11 := of_decide_eq_false hg10
    refine wp_cond_false rfl ?_
    refine wp_exit ?_
    show Code.wp _ _ _ _ _
    refine wp_seq ?_
    refine wp_region_lit ?_
    refine st_mv (.int .i64 0) ?_
    simp only [nf0, nf1, nf2, nf3, nf4]
    refine st_mv (.int .i64 0) ?_
    simp only [nf0, nf1, nf2, nf3, nf4]
    refine wpList_nil ?_
    show Code.wp _ _ _ _ _
    refine wp_ret ?_
    first | show bodyPost _ _ _ _ _ _ | (simp only [Exit.then, Exit.inBlock]; show bodyPost _ _ _ _ _ _)
    have hg : getAt l p = none := rdh_over hs (by rw [List.length_take, List.length_drop]; omega)
    exact bodyPost_ret (results_tmp2 rfl _ _ _) rfl ⟨by rw [hg]; rfl, bel⟩
  have hp12 := of_decide_eq_true hg10
  refine wp_cond_true rfl ?_
  refine wp_skip ?_
  show Code.wp _ _ _ _ _
  refine wp_seq ?_
  refine wp_block ?_
  refine wp_seq ?_
  have hkz : k < ((l.drop p).take 10).length := by rw [List.length_take, List.length_drop]; omega
  have hcz := bt_cut hkz
  have hc8 := u8_lt (bt l (p + k))
  obtain ⟨b13, o14, rfl, _⟩ := (hr.same bel).at_ (by rw [eByte_all, List.length_map]; omega)
  refine wp_region_lit ?_
  refine st_mv (.slice (some ⟨b13, o14, none⟩) l.length cap) ?_
  simp only [nf0, nf1, nf2, nf3, nf4]
  refine st_mv (.int .i64 (p : Int)) ?_
  simp only [nf0, nf1, nf2, nf3, nf4]
  refine st_mv (.int .i64 (k : Int)) ?_
  simp only [nf0, nf1, nf2, nf3, nf4]
  refine st_value (v := (.int .i64 ((p : Int) + (k : Int)))) (by rfl) (run_add_in (.tmp 33) (.tmp 34) rfl rfl rfl (by omega) w6) ?_
  simp only [nf0, nf1, nf2, nf3, nf4]
  refine st_value (v := (.pointer (some ⟨b13, o14 + (p + k) * 1, none⟩))) (by rfl) (run_indexAddrN (.tmp 32) (.tmp 35) rfl Tryd.underlying22 slByte.sz (i := (p + k)) rfl (by exact (congrArg (Value.int .i64) (show ((p : Int) + (k : Int)) = ((p + k : Nat) : Int) by omega))) (by omega) w6) ?_
  simp only [nf0, nf1, nf2, nf3, nf4]
  refine st_value (v := (.int .u8 ((bt l (p + k)).toNat : Int))) (by rfl) (run_load1 (.tmp 36) rfl Tryd.underlying5 rfl slByte.sz rfl (Reads.byteAt (hr.same bel) (p + k) (by omega))) ?_
  simp only [nf0, nf1, nf2, nf3, nf4]
  refine st_mv (.int .u8 ((bt l (p + k)).toNat : Int)) ?_
  simp only [nf0, nf1, nf2, nf3, nf4]
  refine wpList_nil ?_
  show Code.wp _ _ _ _ _
  refine wp_seq ?_
  refine wp_seq ?_
  cases hg15 : decide ((k : Int) = 9)
  · have hp16 := of_decide_eq_false hg15
    refine wp_region_lit ?_
    refine st_mv (.int .i64 (k : Int)) ?_
    simp only [nf0, nf1, nf2, nf3, nf4]
    refine st_value (v := (.bool false)) (by rfl) ((run_eql_int (.tmp 38) (.const (.int .i64 9)) rfl rfl rfl w6).trans (by rw [hg15])) ?_
    simp only [nf0, nf1, nf2, nf3, nf4]
    refine st_mv (.bool false) ?_
    simp only [nf0, nf1, nf2, nf3, nf4]
    refine st_nob (j := 2) (t := 40) (c := false) rfl rfl rfl rfl rfl ?_
    simp only [nf0, nf1, nf2, nf3, nf4]
    refine st_nob (j := 2) (t := 40) (c := false) rfl rfl rfl rfl rfl ?_
    simp only [nf0, nf1, nf2, nf3, nf4]
    refine st_mv (.bool false) ?_
    simp only [nf0, nf1, nf2, nf3, nf4]
    refine wpList_nil ?_
    show Code.wp _ _ _ _ _
    refine wp_cond_false rfl ?_
    refine wp_skip ?_
    show Code.wp _ _ _ _ _
    refine wp_seq ?_
    refine wp_region_lit ?_
    refine st_mv (.int .u8 ((bt l (p + k)).toNat : Int)) ?_
    simp only [nf0, nf1, nf2, nf3, nf4]
    refine st_value (v := (.int .u8 (((bt l (p + k)).toNat % 128 : Nat) : Int))) (by rfl) (run_remK (.tmp 44) (.const (.int .u8 128)) rfl (k := .u8) (m := (bt l (p + k)).toNat) (n := 128) rfl rfl (by omega) w6) ?_
    simp only [nf0, nf1, nf2, nf3, nf4]
    refine st_value (v := (.int .u64 (((bt l (p + k)).toNat % 128 : Nat) : Int))) (by rfl) (run_conv_u8_u64 (.tmp 45) rfl Tryd.underlying5 Tryd.underlying31 (z := (((bt l (p + k)).toNat % 128 : Nat) : Int)) (z' := (((bt l (p + k)).toNat % 128 : Nat) : Int)) rfl (by rw [wrap_u64z]; omega) w6) ?_
    simp only [nf0, nf1, nf2, nf3, nf4]
    refine st_mv (.int .u64 (((bt l (p + k)).toNat % 128 : Nat) : Int)) ?_
    simp only [nf0, nf1, nf2, nf3, nf4]
    refine wpList_nil ?_
    show Code.wp _ _ _ _ _
    refine wp_seq ?_
    refine wp_seq ?_
    refine wp_region_lit ?_
    refine st_mv (.int .i64 0) ?_
    simp only [nf0, nf1, nf2, nf3, nf4]
    refine wpList_nil ?_
    show Code.wp _ _ _ _ _
    refine wp_block ?_
    refine wp_loop_left (fun n_ a_ wr_ => (fun J17 => ∃ (j : Nat) (q : Nat), n_ = k - j ∧ a_ = ⟨#[.slice (some ⟨b13, o14, none⟩) l.length cap, .int .i64 (p : Int), J17 2, J17 3, J5 4, J5 5, .int .u64 ((u : Nat) : Int), .int .i64 (k : Int), .int .u8 ((bt l (p + k)).toNat : Int), .int .u64 ((q : Nat) : Int), .int .i64 (j : Int), J17 11, J17 12, J17 13, J17 14, J17 15, J17 16, J17 17, J17 18, J17 19, J17 20, J17 21, J17 22, J17 23, J17 24, J17 25, J17 26, J17 27, J17 28, J17 29, J17 30, J17 31, J17 32, J17 33, J17 34, J17 35, J17 36, J17 37, J17 38, J17 39, J17 40, J17 41, J17 42, J17 43, J17 44, J17 45, J17 46, J17 47, J17 48, J17 49, J17 50, J17 51, J17 52, J17 53, J17 54, J17 55, J17 56, J17 57, J17 58, J17 59, J17 60, J17 61, J17 62, J17 63, J17 64, J17 65, J17 66, J17 67, J17 68, J17 69, J17 70, J17 71, J17 72, J17 73, J17 74, J17 75, J17 76], []⟩ ∧ Below w.heap.size w wr_ ∧ (j ≤ k) ∧ (q = (bt l (p + k)).toNat % 128 * 2 ^ (7 * j))) (jk a_)) (k - 0) ⟨0, ((bt l (p + k)).toNat % 128), rfl, rfl, bel, (by omega), (by rw [Nat.mul_zero, Nat.pow_zero, Nat.mul_one])⟩ ?_
    clear bel
    intro n_ a_ w18 h_
    revert h_
    generalize jk a_ = J17
    rintro ⟨j, q, hms, rfl, bel, hj, hq⟩
    refine wp_seq ?_
    refine wp_seq ?_
    refine wp_region_lit ?_
    refine st_mv (.int .i64 (j : Int)) ?_
    simp only [nf0, nf1, nf2, nf3, nf4]
    refine st_mv (.int .i64 (k : Int)) ?_
    simp only [nf0, nf1, nf2, nf3, nf4]
    refine st_value (v := (.bool (decide ((j : Int) < (k : Int))))) (by rfl) (run_lss (.tmp 47) (.tmp 48) rfl rfl rfl w18) ?_
    simp only [nf0, nf1, nf2, nf3, nf4]
    refine wpList_nil ?_
    show Code.wp _ _ _ _ _
    cases hg19 : decide ((j : Int) < (k : Int))
    rotate_left
    · have hp36 := of_decide_eq_true hg19
      refine wp_cond_true rfl ?_
      refine wp_skip ?_
      show Code.wp _ _ _ _ _
      refine wp_seq ?_
      refine wp_block ?_
      refine wp_region_lit ?_
      refine st_mv (.int .u64 ((q : Nat) : Int)) ?_
      simp only [nf0, nf1, nf2, nf3, nf4]
      refine st_value (v := (.int .u64 ((q * 128 : Nat) : Int))) (by rfl) (run_mulW (.tmp 52) (.const (.int .u64 128)) rfl (m := q) (n := 128) (r := q * 128) rfl rfl rfl (by rw [hq, part_step]; exact part_lt (k := k) (by omega) (by omega)) w18) ?_
      simp only [nf0, nf1, nf2, nf3, nf4]
      refine st_mv (.int .u64 ((q * 128 : Nat) : Int)) ?_
      simp only [nf0, nf1, nf2, nf3, nf4]
      refine wpList_nil ?_
      show Code.wp _ _ _ _ _
      refine wp_region_lit ?_
      refine st_mv (.int .i64 (j : Int)) ?_
      simp only [nf0, nf1, nf2, nf3, nf4]
      refine st_value (v := (.int .i64 ((j : Int) + 1))) (by rfl) (run_add_in (.tmp 50) (.const (.int .i64 1)) rfl rfl rfl (by omega) w18) ?_
      simp only [nf0, nf1, nf2, nf3, nf4]
      refine st_mv (.int .i64 ((j : Int) + 1)) ?_
      simp only [nf0, nf1, nf2, nf3, nf4]
      refine wpList_nil ?_
      show ∃ m, m < _ ∧ _
      exact ⟨_, (by omega), (j + 1), (q * 128), rfl, rfl, bel, (by omega), (by rw [hq, part_step])⟩
    have hp20 := of_decide_eq_false hg19
    refine wp_cond_false rfl ?_
    refine wp_exit ?_
    show Code.wp _ _ _ _ _
    refine wp_seq ?_
    obtain rfl : k = j := by omega
    subst hq
    refine wp_region_lit ?_
    refine st_mv (.int .u64 ((u : Nat) : Int)) ?_
    simp only [nf0, nf1, nf2, nf3, nf4]
    refine st_mv (.int .u64 (((bt l (p + k)).toNat % 128 * 2 ^ (7 * k) : Nat) : Int)) ?_
    simp only [nf0, nf1, nf2, nf3, nf4]
    refine st_value (v := (.int .u64 ((u + (bt l (p + k)).toNat % 128 * 2 ^ (7 * k) : Nat) : Int))) (by rfl) (run_addW (.tmp 54) (.tmp 55) rfl (m := u) (n := (bt l (p + k)).toNat % 128 * 2 ^ (7 * k)) rfl rfl (read_lt hs.1 (by omega)) w18) ?_
    simp only [nf0, nf1, nf2, nf3, nf4]
    refine st_mv (.int .u64 ((u + (bt l (p + k)).toNat % 128 * 2 ^ (7 * k) : Nat) : Int)) ?_
    simp only [nf0, nf1, nf2, nf3, nf4]
    refine wpList_nil ?_
    show Code.wp _ _ _ _ _
    refine wp_seq ?_
    refine wp_seq ?_
    refine wp_region_lit ?_
    refine st_mv (.int .u8 ((bt l (p + k)).toNat : Int)) ?_
    simp only [nf0, nf1, nf2, nf3, nf4]
    refine st_value (v := (.bool (decide (128 ≤ ((bt l (p + k)).toNat : Int))))) (by rfl) (run_geq (.tmp 57) (.const (.int .u8 128)) rfl rfl rfl w18) ?_
    simp only [nf0, nf1, nf2, nf3, nf4]
    refine wpList_nil ?_
    show Code.wp _ _ _ _ _
    cases hg21 : decide (128 ≤ ((bt l (p + k)).toNat : Int))
    rotate_left
    · have hp35 := of_decide_eq_true hg21
      refine wp_cond_true rfl ?_
      refine wp_exit ?_
      show Code.wp _ _ _ _ _
      refine wp_region_lit ?_
      refine st_mv (.int .i64 (k : Int)) ?_
      simp only [nf0, nf1, nf2, nf3, nf4]
      refine st_value (v := (.int .i64 ((k : Int) + 1))) (by rfl) (run_add_in (.tmp 30) (.const (.int .i64 1)) rfl rfl rfl (by omega) w18) ?_
      simp only [nf0, nf1, nf2, nf3, nf4]
      refine st_mv (.int .i64 ((k : Int) + 1)) ?_
      simp only [nf0, nf1, nf2, nf3, nf4]
      refine wpList_nil ?_
      show ∃ m, m < _ ∧ _
      exact ⟨_, (by omega), (k + 1), (u + (bt l (p + k)).toNat % 128 * 2 ^ (7 * k)), rfl, rfl, bel, (by omega), (rdh_cont hs hkz hcz (by omega))⟩
    have hp22 := of_decide_eq_false hg21
    refine wp_cond_false rfl ?_
    refine wp_skip ?_
    show Code.wp _ _ _ _ _
    refine wp_seq ?_
    refine wp_seq ?_
    cases hg23 : decide (0 < (k : Int))
    · have hp24 := of_decide_eq_false hg23
      refine wp_region_lit ?_
      refine st_mv (.int .i64 (k : Int)) ?_
      simp only [nf0, nf1, nf2, nf3, nf4]
      refine st_value (v := (.bool false)) (by rfl) ((run_gtr (.tmp 59) (.const (.int .i64 0)) rfl rfl rfl w18).trans (by rw [hg23])) ?_
      simp only [nf0, nf1, nf2, nf3, nf4]
      refine st_mv (.bool false) ?_
      simp only [nf0, nf1, nf2, nf3, nf4]
      refine st_nob (j := 2) (t := 61) (c := false) rfl rfl rfl rfl rfl ?_
      simp only [nf0, nf1, nf2, nf3, nf4]
      refine st_nob (j := 2) (t := 61) (c := false) rfl rfl rfl rfl rfl ?_
      simp only [nf0, nf1, nf2, nf3, nf4]
      refine st_mv (.bool false) ?_
      simp only [nf0, nf1, nf2, nf3, nf4]
      refine wpList_nil ?_
      show Code.wp _ _ _ _ _
      refine wp_cond_false rfl ?_
      refine wp_skip ?_
      show Code.wp _ _ _ _ _
      refine wp_seq ?_
      refine wp_region_lit ?_
      refine st_mv (.int .u64 ((u + (bt l (p + k)).toNat % 128 * 2 ^ (7 * k) : Nat) : Int)) ?_
      simp only [nf0, nf1, nf2, nf3, nf4]
      refine st_value (v := (.int .u64 (((u + (bt l (p + k)).toNat % 128 * 2 ^ (7 * k)) / 2 : Nat) : Int))) (by rfl) (run_quoW (.tmp 65) (.const (.int .u64 2)) rfl (m := (u + (bt l (p + k)).toNat % 128 * 2 ^ (7 * k))) (n := 2) rfl rfl (by omega) (read_lt hs.1 (by omega)) w18) ?_
      simp only [nf0, nf1, nf2, nf3, nf4]
      refine st_value (v := (.int .i64 (((u + (bt l (p + k)).toNat % 128 * 2 ^ (7 * k)) / 2 : Nat) : Int))) (by rfl) (run_conv_u64_i64 (.tmp 66) rfl Tryd.underlying31 Tryd.underlying3 (z := (((u + (bt l (p + k)).toNat % 128 * 2 ^ (7 * k)) / 2 : Nat) : Int)) (z' := (((u + (bt l (p + k)).toNat % 128 * 2 ^ (7 * k)) / 2 : Nat) : Int)) rfl (halfI (read_lt (c := (bt l (p + k))) hs.1 (by omega))) w18) ?_
      simp only [nf0, nf1, nf2, nf3, nf4]
      refine st_mv (.int .i64 (((u + (bt l (p + k)).toNat % 128 * 2 ^ (7 * k)) / 2 : Nat) : Int)) ?_
      simp only [nf0, nf1, nf2, nf3, nf4]
      refine wpList_nil ?_
      show Code.wp _ _ _ _ _
      refine wp_seq ?_
      refine wp_seq ?_
      have hhf : (u + (bt l (p + k)).toNat % 128 * 2 ^ (7 * k)) / 2 < 9223372036854775808 := by have h := read_lt (c := (bt l (p + k))) hs.1 (by omega); generalize (u + (bt l (p + k)).toNat % 128 * 2 ^ (7 * k)) = m at *; omega
      refine wp_region_lit ?_
      refine st_mv (.int .u64 ((u + (bt l (p + k)).toNat % 128 * 2 ^ (7 * k) : Nat) : Int)) ?_
      simp only [nf0, nf1, nf2, nf3, nf4]
      refine st_value (v := (.int .u64 (((u + (bt l (p + k)).toNat % 128 * 2 ^ (7 * k)) % 2 : Nat) : Int))) (by rfl) (run_remK (.tmp 68) (.const (.int .u64 2)) rfl (k := .u64) (m := (u + (bt l (p + k)).toNat % 128 * 2 ^ (7 * k))) (n := 2) rfl rfl (by omega) w18) ?_
      simp only [nf0, nf1, nf2, nf3, nf4]
      refine st_value (v := (.bool (decide ((((u + (bt l (p + k)).toNat % 128 * 2 ^ (7 * k)) % 2 : Nat) : Int) = 1)))) (by rfl) (run_eql_int (.tmp 69) (.const (.int .u64 1)) rfl rfl rfl w18) ?_
      simp only [nf0, nf1, nf2, nf3, nf4]
      refine wpList_nil ?_
      show Code.wp _ _ _ _ _
      cases hg25 : decide ((((u + (bt l (p + k)).toNat % 128 * 2 ^ (7 * k)) % 2 : Nat) : Int) = 1)
      · have hp26 := of_decide_eq_false hg25
        refine wp_cond_false rfl ?_
        refine wp_skip ?_
        show Code.wp _ _ _ _ _
        refine wp_seq ?_
        refine wp_region_lit ?_
        refine st_mv (.int .i64 (((u + (bt l (p + k)).toNat % 128 * 2 ^ (7 * k)) / 2 : Nat) : Int)) ?_
        simp only [nf0, nf1, nf2, nf3, nf4]
        refine st_mv (.int .i64 (k : Int)) ?_
        simp only [nf0, nf1, nf2, nf3, nf4]
        refine st_value (v := (.int .i64 ((k : Int) + 1))) (by rfl) (run_add_in (.tmp 75) (.const (.int .i64 1)) rfl rfl rfl (by omega) w18) ?_
        simp only [nf0, nf1, nf2, nf3, nf4]
        refine st_mv (.int .i64 (((u + (bt l (p + k)).toNat % 128 * 2 ^ (7 * k)) / 2 : Nat) : Int)) ?_
        simp only [nf0, nf1, nf2, nf3, nf4]
        refine st_mv (.int .i64 ((k : Int) + 1)) ?_
        simp only [nf0, nf1, nf2, nf3, nf4]
        refine wpList_nil ?_
        show Code.wp _ _ _ _ _
        refine wp_ret ?_
        first | show bodyPost _ _ _ _ _ _ | (simp only [Exit.then, Exit.inBlock]; show bodyPost _ _ _ _ _ _)
        have hg : getAt l p = some ((u + (bt l (p + k)).toNat % 128 * 2 ^ (7 * k)), k + 1) := rdh_end hs hkz hcz (by omega) (by omega)
        refine bodyPost_ret (results_tmp2 rfl _ _ _) rfl ⟨?_, bel⟩
        rw [hg]
        show Ending.returned (Value.tuple #[.int .i64 (((u + (bt l (p + k)).toNat % 128 * 2 ^ (7 * k)) / 2 : Nat) : Int), .int .i64 ((k : Int) + 1)]) = Ending.returned (Value.tuple #[.int .i64 (zag (u + (bt l (p + k)).toNat % 128 * 2 ^ (7 * k))), .int .i64 ((k + 1 : Nat) : Int)])
        have hz : ((((u + (bt l (p + k)).toNat % 128 * 2 ^ (7 * k)) / 2 : Nat) : Int) : Int) = zag (u + (bt l (p + k)).toNat % 128 * 2 ^ (7 * k)) := by unfold zag; split <;> omega
        rw [hz, show (((k : Int) + 1) : Int) = ((k + 1 : Nat) : Int) by omega]
      have hp27 := of_decide_eq_true hg25
      refine wp_cond_true rfl ?_
      refine wp_region_lit ?_
      refine st_mv (.int .i64 (((u + (bt l (p + k)).toNat % 128 * 2 ^ (7 * k)) / 2 : Nat) : Int)) ?_
      simp only [nf0, nf1, nf2, nf3, nf4]
      refine st_value (v := (.int .i64 (-(((u + (bt l (p + k)).toNat % 128 * 2 ^ (7 * k)) / 2 : Nat) : Int)))) (by rfl) (run_negZ (.tmp 71) rfl (z := (((u + (bt l (p + k)).toNat % 128 * 2 ^ (7 * k)) / 2 : Nat) : Int)) (z' := -(((u + (bt l (p + k)).toNat % 128 * 2 ^ (7 * k)) / 2 : Nat) : Int)) rfl (halfN (read_lt (c := (bt l (p + k))) hs.1 (by omega))) w18) ?_
      simp only [nf0, nf1, nf2, nf3, nf4]
      refine st_value (v := (.int .i64 ((-(((u + (bt l (p + k)).toNat % 128 * 2 ^ (7 * k)) / 2 : Nat) : Int)) - 1))) (by rfl) (run_sub_in (.tmp 72) (.const (.int .i64 1)) rfl rfl rfl (by omega) w18) ?_
      simp only [nf0, nf1, nf2, nf3, nf4]
      refine st_mv (.int .i64 ((-(((u + (bt l (p + k)).toNat % 128 * 2 ^ (7 * k)) / 2 : Nat) : Int)) - 1)) ?_
      simp only [nf0, nf1, nf2, nf3, nf4]
      refine wpList_nil ?_
      show Code.wp _ _ _ _ _
      refine wp_seq ?_
      refine wp_region_lit ?_
      refine st_mv (.int .i64 ((-(((u + (bt l (p + k)).toNat % 128 * 2 ^ (7 * k)) / 2 : Nat) : Int)) - 1)) ?_
      simp only [nf0, nf1, nf2, nf3, nf4]
      refine st_mv (.int .i64 (k : Int)) ?_
      simp only [nf0, nf1, nf2, nf3, nf4]
      refine st_value (v := (.int .i64 ((k : Int) + 1))) (by rfl) (run_add_in (.tmp 75) (.const (.int .i64 1)) rfl rfl rfl (by omega) w18) ?_
      simp only [nf0, nf1, nf2, nf3, nf4]
      refine st_mv (.int .i64 ((-(((u + (bt l (p + k)).toNat % 128 * 2 ^ (7 * k)) / 2 : Nat) : Int)) - 1)) ?_
      simp only [nf0, nf1, nf2, nf3, nf4]
      refine st_mv (.int .i64 ((k : Int) + 1)) ?_
      simp only [nf0, nf1, nf2, nf3, nf4]
      refine wpList_nil ?_
      show Code.wp _ _ _ _ _
      refine wp_ret ?_
      first | show bodyPost _ _ _ _ _ _ | (simp only [Exit.then, Exit.inBlock]; show bodyPost _ _ _ _ _ _)
      have hg : getAt l p = some ((u + (bt l (p + k)).toNat % 128 * 2 ^ (7 * k)), k + 1) := rdh_end hs hkz hcz (by omega) (by omega)
      refine bodyPost_ret (results_tmp2 rfl _ _ _) rfl ⟨?_, bel⟩
      rw [hg]
      show Ending.returned (Value.tuple #[.int .i64 ((-(((u + (bt l (p + k)).toNat % 128 * 2 ^ (7 * k)) / 2 : Nat) : Int)) - 1), .int .i64 ((k : Int) + 1)]) = Ending.returned (Value.tuple #[.int .i64 (zag (u + (bt l (p + k)).toNat % 128 * 2 ^ (7 * k))), .int .i64 ((k + 1 : Nat) : Int)])
      have hz : (((-(((u + (bt l (p + k)).toNat % 128 * 2 ^ (7 * k)) / 2 : Nat) : Int)) - 1) : Int) = zag (u + (bt l (p + k)).toNat % 128 * 2 ^ (7 * k)) := by unfold zag; split <;> omega
      rw [hz, show (((k : Int) + 1) : Int) = ((k + 1 : Nat) : Int) by omega]
    have hp28 := of_decide_eq_true hg23
    refine wp_region_lit ?_
    refine st_mv (.int .i64 (k : Int)) ?_
    simp only [nf0, nf1, nf2, nf3, nf4]
    refine st_value (v := (.bool true)) (by rfl) ((run_gtr (.tmp 59) (.const (.int .i64 0)) rfl rfl rfl w18).trans (by rw [hg23])) ?_
    simp only [nf0, nf1, nf2, nf3, nf4]
    refine st_mv (.bool true) ?_
    simp only [nf0, nf1, nf2, nf3, nf4]
    refine st_mv (.int .u8 ((bt l (p + k)).toNat : Int)) ?_
    simp only [nf0, nf1, nf2, nf3, nf4]
    refine st_value (v := (.bool (decide (((bt l (p + k)).toNat : Int) = 0)))) (by rfl) (run_eql_int (.tmp 62) (.const (.int .u8 0)) rfl rfl rfl w18) ?_
    simp only [nf0, nf1, nf2, nf3, nf4]
    refine st_mv (.bool (decide (((bt l (p + k)).toNat : Int) = 0))) ?_
    simp only [nf0, nf1, nf2, nf3, nf4]
    refine wpList_nil ?_
    show Code.wp _ _ _ _ _
    cases hg29 : decide (((bt l (p + k)).toNat : Int) = 0)
    rotate_left
    · have hp34 := of_decide_eq_true hg29
      refine wp_cond_true rfl ?_
      refine wp_seq ?_
      refine wp_region_lit ?_
      refine st_mv (.int .i64 0) ?_
      simp only [nf0, nf1, nf2, nf3, nf4]
      refine st_mv (.int .i64 0) ?_
      simp only [nf0, nf1, nf2, nf3, nf4]
      refine wpList_nil ?_
      show Code.wp _ _ _ _ _
      refine wp_ret ?_
      first | show bodyPost _ _ _ _ _ _ | (simp only [Exit.then, Exit.inBlock]; show bodyPost _ _ _ _ _ _)
      have hg : getAt l p = none := rdh_bad hs hkz hZ hcz (by omega)
      exact bodyPost_ret (results_tmp2 rfl _ _ _) rfl ⟨by rw [hg]; rfl, bel⟩
    have hp30 := of_decide_eq_false hg29
    refine wp_cond_false rfl ?_
    refine wp_skip ?_
    show Code.wp _ _ _ _ _
    refine wp_seq ?_
    refine wp_region_lit ?_
    refine st_mv (.int .u64 ((u + (bt l (p + k)).toNat % 128 * 2 ^ (7 * k) : Nat) : Int)) ?_
    simp only [nf0, nf1, nf2, nf3, nf4]
    refine st_value (v := (.int .u64 (((u + (bt l (p + k)).toNat % 128 * 2 ^ (7 * k)) / 2 : Nat) : Int))) (by rfl) (run_quoW (.tmp 65) (.const (.int .u64 2)) rfl (m := (u + (bt l (p + k)).toNat % 128 * 2 ^ (7 * k))) (n := 2) rfl rfl (by omega) (read_lt hs.1 (by omega)) w18) ?_
    simp only [nf0, nf1, nf2, nf3, nf4]
    refine st_value (v := (.int .i64 (((u + (bt l (p + k)).toNat % 128 * 2 ^ (7 * k)) / 2 : Nat) : Int))) (by rfl) (run_conv_u64_i64 (.tmp 66) rfl Tryd.underlying31 Tryd.underlying3 (z := (((u + (bt l (p + k)).toNat % 128 * 2 ^ (7 * k)) / 2 : Nat) : Int)) (z' := (((u + (bt l (p + k)).toNat % 128 * 2 ^ (7 * k)) / 2 : Nat) : Int)) rfl (halfI (read_lt (c := (bt l (p + k))) hs.1 (by omega))) w18) ?_
    simp only [nf0, nf1, nf2, nf3, nf4]
    refine st_mv (.int .i64 (((u + (bt l (p + k)).toNat % 128 * 2 ^ (7 * k)) / 2 : Nat) : Int)) ?_
    simp only [nf0, nf1, nf2, nf3, nf4]
    refine wpList_nil ?_
    show Code.wp _ _ _ _ _
    refine wp_seq ?_
    refine wp_seq ?_
    have hhf : (u + (bt l (p + k)).toNat % 128 * 2 ^ (7 * k)) / 2 < 9223372036854775808 := by have h := read_lt (c := (bt l (p + k))) hs.1 (by omega); generalize (u + (bt l (p + k)).toNat % 128 * 2 ^ (7 * k)) = m at *; omega
    refine wp_region_lit ?_
    refine st_mv (.int .u64 ((u + (bt l (p + k)).toNat % 128 * 2 ^ (7 * k) : Nat) : Int)) ?_
    simp only [nf0, nf1, nf2, nf3, nf4]
    refine st_value (v := (.int .u64 (((u + (bt l (p + k)).toNat % 128 * 2 ^ (7 * k)) % 2 : Nat) : Int))) (by rfl) (run_remK (.tmp 68) (.const (.int .u64 2)) rfl (k := .u64) (m := (u + (bt l (p + k)).toNat % 128 * 2 ^ (7 * k))) (n := 2) rfl rfl (by omega) w18) ?_
    simp only [nf0, nf1, nf2, nf3, nf4]
    refine st_value (v := (.bool (decide ((((u + (bt l (p + k)).toNat % 128 * 2 ^ (7 * k)) % 2 : Nat) : Int) = 1)))) (by rfl) (run_eql_int (.tmp 69) (.const (.int .u64 1)) rfl rfl rfl w18) ?_
    simp only [nf0, nf1, nf2, nf3, nf4]
    refine wpList_nil ?_
    show Code.wp _ _ _ _ _
    cases hg31 : decide ((((u + (bt l (p + k)).toNat % 128 * 2 ^ (7 * k)) % 2 : Nat) : Int) = 1)
    · have hp32 := of_decide_eq_false hg31
      refine wp_cond_false rfl ?_
      refine wp_skip ?_
      show Code.wp _ _ _ _ _
      refine wp_seq ?_
      refine wp_region_lit ?_
      refine st_mv (.int .i64 (((u + (bt l (p + k)).toNat % 128 * 2 ^ (7 * k)) / 2 : Nat) : Int)) ?_
      simp only [nf0, nf1, nf2, nf3, nf4]
      refine st_mv (.int .i64 (k : Int)) ?_
      simp only [nf0, nf1, nf2, nf3, nf4]
      refine st_value (v := (.int .i64 ((k : Int) + 1))) (by rfl) (run_add_in (.tmp 75) (.const (.int .i64 1)) rfl rfl rfl (by omega) w18) ?_
      simp only [nf0, nf1, nf2, nf3, nf4]
      refine st_mv (.int .i64 (((u + (bt l (p + k)).toNat % 128 * 2 ^ (7 * k)) / 2 : Nat) : Int)) ?_
      simp only [nf0, nf1, nf2, nf3, nf4]
      refine st_mv (.int .i64 ((k : Int) + 1)) ?_
      simp only [nf0, nf1, nf2, nf3, nf4]
      refine wpList_nil ?_
      show Code.wp _ _ _ _ _
      refine wp_ret ?_
      first | show bodyPost _ _ _ _ _ _ | (simp only [Exit.then, Exit.inBlock]; show bodyPost _ _ _ _ _ _)
      have hg : getAt l p = some ((u + (bt l (p + k)).toNat % 128 * 2 ^ (7 * k)), k + 1) := rdh_end hs hkz hcz (by omega) (by omega)
      refine bodyPost_ret (results_tmp2 rfl _ _ _) rfl ⟨?_, bel⟩
      rw [hg]
      show Ending.returned (Value.tuple #[.int .i64 (((u + (bt l (p + k)).toNat % 128 * 2 ^ (7 * k)) / 2 : Nat) : Int), .int .i64 ((k : Int) + 1)]) = Ending.returned (Value.tuple #[.int .i64 (zag (u + (bt l (p + k)).toNat % 128 * 2 ^ (7 * k))), .int .i64 ((k + 1 : Nat) : Int)])
      have hz : ((((u + (bt l (p + k)).toNat % 128 * 2 ^ (7 * k)) / 2 : Nat) : Int) : Int) = zag (u + (bt l (p + k)).toNat % 128 * 2 ^ (7 * k)) := by unfold zag; split <;> omega
      rw [hz, show (((k : Int) + 1) : Int) = ((k + 1 : Nat) : Int) by omega]
    have hp33 := of_decide_eq_true hg31
    refine wp_cond_true rfl ?_
    refine wp_region_lit ?_
    refine st_mv (.int .i64 (((u + (bt l (p + k)).toNat % 128 * 2 ^ (7 * k)) / 2 : Nat) : Int)) ?_
    simp only [nf0, nf1, nf2, nf3, nf4]
    refine st_value (v := (.int .i64 (-(((u + (bt l (p + k)).toNat % 128 * 2 ^ (7 * k)) / 2 : Nat) : Int)))) (by rfl) (run_negZ (.tmp 71) rfl (z := (((u + (bt l (p + k)).toNat % 128 * 2 ^ (7 * k)) / 2 : Nat) : Int)) (z' := -(((u + (bt l (p + k)).toNat % 128 * 2 ^ (7 * k)) / 2 : Nat) : Int)) rfl (halfN (read_lt (c := (bt l (p + k))) hs.1 (by omega))) w18) ?_
    simp only [nf0, nf1, nf2, nf3, nf4]
    refine st_value (v := (.int .i64 ((-(((u + (bt l (p + k)).toNat % 128 * 2 ^ (7 * k)) / 2 : Nat) : Int)) - 1))) (by rfl) (run_sub_in (.tmp 72) (.const (.int .i64 1)) rfl rfl rfl (by omega) w18) ?_
    simp only [nf0, nf1, nf2, nf3, nf4]
    refine st_mv (.int .i64 ((-(((u + (bt l (p + k)).toNat % 128 * 2 ^ (7 * k)) / 2 : Nat) : Int)) - 1)) ?_
    simp only [nf0, nf1, nf2, nf3, nf4]
    refine wpList_nil ?_
    show Code.wp _ _ _ _ _
    refine wp_seq ?_
    refine wp_region_lit ?_
    refine st_mv (.int .i64 ((-(((u + (bt l (p + k)).toNat % 128 * 2 ^ (7 * k)) / 2 : Nat) : Int)) - 1)) ?_
    simp only [nf0, nf1, nf2, nf3, nf4]
    refine st_mv (.int .i64 (k : Int)) ?_
    simp only [nf0, nf1, nf2, nf3, nf4]
    refine st_value (v := (.int .i64 ((k : Int) + 1))) (by rfl) (run_add_in (.tmp 75) (.const (.int .i64 1)) rfl rfl rfl (by omega) w18) ?_
    simp only [nf0, nf1, nf2, nf3, nf4]
    refine st_mv (.int .i64 ((-(((u + (bt l (p + k)).toNat % 128 * 2 ^ (7 * k)) / 2 : Nat) : Int)) - 1)) ?_
    simp only [nf0, nf1, nf2, nf3, nf4]
    refine st_mv (.int .i64 ((k : Int) + 1)) ?_
    simp only [nf0, nf1, nf2, nf3, nf4]
    refine wpList_nil ?_
    show Code.wp _ _ _ _ _
    refine wp_ret ?_
    first | show bodyPost _ _ _ _ _ _ | (simp only [Exit.then, Exit.inBlock]; show bodyPost _ _ _ _ _ _)
    have hg : getAt l p = some ((u + (bt l (p + k)).toNat % 128 * 2 ^ (7 * k)), k + 1) := rdh_end hs hkz hcz (by omega) (by omega)
    refine bodyPost_ret (results_tmp2 rfl _ _ _) rfl ⟨?_, bel⟩
    rw [hg]
    show Ending.returned (Value.tuple #[.int .i64 ((-(((u + (bt l (p + k)).toNat % 128 * 2 ^ (7 * k)) / 2 : Nat) : Int)) - 1), .int .i64 ((k : Int) + 1)]) = Ending.returned (Value.tuple #[.int .i64 (zag (u + (bt l (p + k)).toNat % 128 * 2 ^ (7 * k))), .int .i64 ((k + 1 : Nat) : Int)])
    have hz : (((-(((u + (bt l (p + k)).toNat % 128 * 2 ^ (7 * k)) / 2 : Nat) : Int)) - 1) : Int) = zag (u + (bt l (p + k)).toNat % 128 * 2 ^ (7 * k)) := by unfold zag; split <;> omega
    rw [hz, show (((k : Int) + 1) : Int) = ((k + 1 : Nat) : Int) by omega]
  have hp37 := of_decide_eq_true hg15
  refine wp_region_lit ?_
  refine st_mv (.int .i64 (k : Int)) ?_
  simp only [nf0, nf1, nf2, nf3, nf4]
  refine st_value (v := (.bool true)) (by rfl) ((run_eql_int (.tmp 38) (.const (.int .i64 9)) rfl rfl rfl w6).trans (by rw [hg15])) ?_
  simp only [nf0, nf1, nf2, nf3, nf4]
  refine st_mv (.bool true) ?_
  simp only [nf0, nf1, nf2, nf3, nf4]
  refine st_mv (.int .u8 ((bt l (p + k)).toNat : Int)) ?_
  simp only [nf0, nf1, nf2, nf3, nf4]
  refine st_value (v := (.bool (decide (1 < ((bt l (p + k)).toNat : Int))))) (by rfl) (run_gtr (.tmp 41) (.const (.int .u8 1)) rfl rfl rfl w6) ?_
  simp only [nf0, nf1, nf2, nf3, nf4]
  refine st_mv (.bool (decide (1 < ((bt l (p + k)).toNat : Int)))) ?_
  simp only [nf0, nf1, nf2, nf3, nf4]
  refine wpList_nil ?_
  show Code.wp _ _ _ _ _
  cases hg38 : decide (1 < ((bt l (p + k)).toNat : Int))
  rotate_left
  · have hp60 := of_decide_eq_true hg38
    refine wp_cond_true rfl ?_
    refine wp_seq ?_
    refine wp_region_lit ?_
    refine st_mv (.int .i64 0) ?_
    simp only [nf0, nf1, nf2, nf3, nf4]
    refine st_mv (.int .i64 0) ?_
    simp only [nf0, nf1, nf2, nf3, nf4]
    refine wpList_nil ?_
    show Code.wp _ _ _ _ _
    refine wp_ret ?_
    first | show bodyPost _ _ _ _ _ _ | (simp only [Exit.then, Exit.inBlock]; show bodyPost _ _ _ _ _ _)
    have hg : getAt l p = none := rdh_bad hs hkz hZ hcz (by omega)
    exact bodyPost_ret (results_tmp2 rfl _ _ _) rfl ⟨by rw [hg]; rfl, bel⟩
  have hp39 := of_decide_eq_false hg38
  refine wp_cond_false rfl ?_
  refine wp_skip ?_
  show Code.wp _ _ _ _ _
  refine wp_seq ?_
  refine wp_region_lit ?_
  refine st_mv (.int .u8 ((bt l (p + k)).toNat : Int)) ?_
  simp only [nf0, nf1, nf2, nf3, nf4]
  refine st_value (v := (.int .u8 (((bt l (p + k)).toNat % 128 : Nat) : Int))) (by rfl) (run_remK (.tmp 44) (.const (.int .u8 128)) rfl (k := .u8) (m := (bt l (p + k)).toNat) (n := 128) rfl rfl (by omega) w6) ?_
  simp only [nf0, nf1, nf2, nf3, nf4]
  refine st_value (v := (.int .u64 (((bt l (p + k)).toNat % 128 : Nat) : Int))) (by rfl) (run_conv_u8_u64 (.tmp 45) rfl Tryd.underlying5 Tryd.underlying31 (z := (((bt l (p + k)).toNat % 128 : Nat) : Int)) (z' := (((bt l (p + k)).toNat % 128 : Nat) : Int)) rfl (by rw [wrap_u64z]; omega) w6) ?_
  simp only [nf0, nf1, nf2, nf3, nf4]
  refine st_mv (.int .u64 (((bt l (p + k)).toNat % 128 : Nat) : Int)) ?_
  simp only [nf0, nf1, nf2, nf3, nf4]
  refine wpList_nil ?_
  show Code.wp _ _ _ _ _
  refine wp_seq ?_
  refine wp_seq ?_
  refine wp_region_lit ?_
  refine st_mv (.int .i64 0) ?_
  simp only [nf0, nf1, nf2, nf3, nf4]
  refine wpList_nil ?_
  show Code.wp _ _ _ _ _
  refine wp_block ?_
  refine wp_loop_left (fun n_ a_ wr_ => (fun J40 => ∃ (j : Nat) (q : Nat), n_ = k - j ∧ a_ = ⟨#[.slice (some ⟨b13, o14, none⟩) l.length cap, .int .i64 (p : Int), J40 2, J40 3, J5 4, J5 5, .int .u64 ((u : Nat) : Int), .int .i64 (k : Int), .int .u8 ((bt l (p + k)).toNat : Int), .int .u64 ((q : Nat) : Int), .int .i64 (j : Int), J40 11, J40 12, J40 13, J40 14, J40 15, J40 16, J40 17, J40 18, J40 19, J40 20, J40 21, J40 22, J40 23, J40 24, J40 25, J40 26, J40 27, J40 28, J40 29, J40 30, J40 31, J40 32, J40 33, J40 34, J40 35, J40 36, J40 37, J40 38, J40 39, J40 40, J40 41, J40 42, J40 43, J40 44, J40 45, J40 46, J40 47, J40 48, J40 49, J40 50, J40 51, J40 52, J40 53, J40 54, J40 55, J40 56, J40 57, J40 58, J40 59, J40 60, J40 61, J40 62, J40 63, J40 64, J40 65, J40 66, J40 67, J40 68, J40 69, J40 70, J40 71, J40 72, J40 73, J40 74, J40 75, J40 76], []⟩ ∧ Below w.heap.size w wr_ ∧ (j ≤ k) ∧ (q = (bt l (p + k)).toNat % 128 * 2 ^ (7 * j))) (jk a_)) (k - 0) ⟨0, ((bt l (p + k)).toNat % 128), rfl, rfl, bel, (by omega), (by rw [Nat.mul_zero, Nat.pow_zero, Nat.mul_one])⟩ ?_
  clear bel
  intro n_ a_ w41 h_
  revert h_
  generalize jk a_ = J40
  rintro ⟨j, q, hms, rfl, bel, hj, hq⟩
  refine wp_seq ?_
  refine wp_seq ?_
  refine wp_region_lit ?_
  refine st_mv (.int .i64 (j : Int)) ?_
  simp only [nf0, nf1, nf2, nf3, nf4]
  refine st_mv (.int .i64 (k : Int)) ?_
  simp only [nf0, nf1, nf2, nf3, nf4]
  refine st_value (v := (.bool (decide ((j : Int) < (k : Int))))) (by rfl) (run_lss (.tmp 47) (.tmp 48) rfl rfl rfl w41) ?_
  simp only [nf0, nf1, nf2, nf3, nf4]
  refine wpList_nil ?_
  show Code.wp _ _ _ _ _
  cases hg42 : decide ((j : Int) < (k : Int))
  rotate_left
  · have hp59 := of_decide_eq_true hg42
    refine wp_cond_true rfl ?_
    refine wp_skip ?_
    show Code.wp _ _ _ _ _
    refine wp_seq ?_
    refine wp_block ?_
    refine wp_region_lit ?_
    refine st_mv (.int .u64 ((q : Nat) : Int)) ?_
    simp only [nf0, nf1, nf2, nf3, nf4]
    refine st_value (v := (.int .u64 ((q * 128 : Nat) : Int))) (by rfl) (run_mulW (.tmp 52) (.const (.int .u64 128)) rfl (m := q) (n := 128) (r := q * 128) rfl rfl rfl (by rw [hq, part_step]; exact part_lt (k := k) (by omega) (by omega)) w41) ?_
    simp only [nf0, nf1, nf2, nf3, nf4]
    refine st_mv (.int .u64 ((q * 128 : Nat) : Int)) ?_
    simp only [nf0, nf1, nf2, nf3, nf4]
    refine wpList_nil ?_
    show Code.wp _ _ _ _ _
    refine wp_region_lit ?_
    refine st_mv (.int .i64 (j : Int)) ?_
    simp only [nf0, nf1, nf2, nf3, nf4]
    refine st_value (v := (.int .i64 ((j : Int) + 1))) (by rfl) (run_add_in (.tmp 50) (.const (.int .i64 1)) rfl rfl rfl (by omega) w41) ?_
    simp only [nf0, nf1, nf2, nf3, nf4]
    refine st_mv (.int .i64 ((j : Int) + 1)) ?_
    simp only [nf0, nf1, nf2, nf3, nf4]
    refine wpList_nil ?_
    show ∃ m, m < _ ∧ _
    exact ⟨_, (by omega), (j + 1), (q * 128), rfl, rfl, bel, (by omega), (by rw [hq, part_step])⟩
  have hp43 := of_decide_eq_false hg42
  refine wp_cond_false rfl ?_
  refine wp_exit ?_
  show Code.wp _ _ _ _ _
  refine wp_seq ?_
  obtain rfl : k = j := by omega
  subst hq
  refine wp_region_lit ?_
  refine st_mv (.int .u64 ((u : Nat) : Int)) ?_
  simp only [nf0, nf1, nf2, nf3, nf4]
  refine st_mv (.int .u64 (((bt l (p + k)).toNat % 128 * 2 ^ (7 * k) : Nat) : Int)) ?_
  simp only [nf0, nf1, nf2, nf3, nf4]
  refine st_value (v := (.int .u64 ((u + (bt l (p + k)).toNat % 128 * 2 ^ (7 * k) : Nat) : Int))) (by rfl) (run_addW (.tmp 54) (.tmp 55) rfl (m := u) (n := (bt l (p + k)).toNat % 128 * 2 ^ (7 * k)) rfl rfl (read_lt hs.1 (by omega)) w41) ?_
  simp only [nf0, nf1, nf2, nf3, nf4]
  refine st_mv (.int .u64 ((u + (bt l (p + k)).toNat % 128 * 2 ^ (7 * k) : Nat) : Int)) ?_
  simp only [nf0, nf1, nf2, nf3, nf4]
  refine wpList_nil ?_
  show Code.wp _ _ _ _ _
  refine wp_seq ?_
  refine wp_seq ?_
  refine wp_region_lit ?_
  refine st_mv (.int .u8 ((bt l (p + k)).toNat : Int)) ?_
  simp only [nf0, nf1, nf2, nf3, nf4]
  refine st_value (v := (.bool (decide (128 ≤ ((bt l (p + k)).toNat : Int))))) (by rfl) (run_geq (.tmp 57) (.const (.int .u8 128)) rfl rfl rfl w41) ?_
  simp only [nf0, nf1, nf2, nf3, nf4]
  refine wpList_nil ?_
  show Code.wp _ _ _ _ _
  cases hg44 : decide (128 ≤ ((bt l (p + k)).toNat : Int))
  rotate_left
  · have hp58 := of_decide_eq_true hg44
    refine wp_cond_true rfl ?_
    refine wp_exit ?_
    show Code.wp _ _ _ _ _
    refine wp_region_lit ?_
    refine st_mv (.int .i64 (k : Int)) ?_
    simp only [nf0, nf1, nf2, nf3, nf4]
    refine st_value (v := (.int .i64 ((k : Int) + 1))) (by rfl) (run_add_in (.tmp 30) (.const (.int .i64 1)) rfl rfl rfl (by omega) w41) ?_
    simp only [nf0, nf1, nf2, nf3, nf4]
    refine st_mv (.int .i64 ((k : Int) + 1)) ?_
    simp only [nf0, nf1, nf2, nf3, nf4]
    refine wpList_nil ?_
    show ∃ m, m < _ ∧ _
    exact ⟨_, (by omega), (k + 1), (u + (bt l (p + k)).toNat % 128 * 2 ^ (7 * k)), rfl, rfl, bel, (by omega), (rdh_cont hs hkz hcz (by omega))⟩
  have hp45 := of_decide_eq_false hg44
  refine wp_cond_false rfl ?_
  refine wp_skip ?_
  show Code.wp _ _ _ _ _
  refine wp_seq ?_
  refine wp_seq ?_
  cases hg46 : decide (0 < (k : Int))
  · have hp47 := of_decide_eq_false hg46
    refine wp_region_lit ?_
    refine st_mv (.int .i64 (k : Int)) ?_
    simp only [nf0, nf1, nf2, nf3, nf4]
    refine st_value (v := (.bool false)) (by rfl) ((run_gtr (.tmp 59) (.const (.int .i64 0)) rfl rfl rfl w41).trans (by rw [hg46])) ?_
    simp only [nf0, nf1, nf2, nf3, nf4]
    refine st_mv (.bool false) ?_
    simp only [nf0, nf1, nf2, nf3, nf4]
    refine st_nob (j := 2) (t := 61) (c := false) rfl rfl rfl rfl rfl ?_
    simp only [nf0, nf1, nf2, nf3, nf4]
    refine st_nob (j := 2) (t := 61) (c := false) rfl rfl rfl rfl rfl ?_
    simp only [nf0, nf1, nf2, nf3, nf4]
    refine st_mv (.bool false) ?_
    simp only [nf0, nf1, nf2, nf3, nf4]
    refine wpList_nil ?_
    show Code.wp _ _ _ _ _
    refine wp_cond_false rfl ?_
    refine wp_skip ?_
    show Code.wp _ _ _ _ _
    refine wp_seq ?_
    refine wp_region_lit ?_
    refine st_mv (.int .u64 ((u + (bt l (p + k)).toNat % 128 * 2 ^ (7 * k) : Nat) : Int)) ?_
    simp only [nf0, nf1, nf2, nf3, nf4]
    refine st_value (v := (.int .u64 (((u + (bt l (p + k)).toNat % 128 * 2 ^ (7 * k)) / 2 : Nat) : Int))) (by rfl) (run_quoW (.tmp 65) (.const (.int .u64 2)) rfl (m := (u + (bt l (p + k)).toNat % 128 * 2 ^ (7 * k))) (n := 2) rfl rfl (by omega) (read_lt hs.1 (by omega)) w41) ?_
    simp only [nf0, nf1, nf2, nf3, nf4]
    refine st_value (v := (.int .i64 (((u + (bt l (p + k)).toNat % 128 * 2 ^ (7 * k)) / 2 : Nat) : Int))) (by rfl) (run_conv_u64_i64 (.tmp 66) rfl Tryd.underlying31 Tryd.underlying3 (z := (((u + (bt l (p + k)).toNat % 128 * 2 ^ (7 * k)) / 2 : Nat) : Int)) (z' := (((u + (bt l (p + k)).toNat % 128 * 2 ^ (7 * k)) / 2 : Nat) : Int)) rfl (halfI (read_lt (c := (bt l (p + k))) hs.1 (by omega))) w41) ?_
    simp only [nf0, nf1, nf2, nf3, nf4]
    refine st_mv (.int .i64 (((u + (bt l (p + k)).toNat % 128 * 2 ^ (7 * k)) / 2 : Nat) : Int)) ?_
    simp only [nf0, nf1, nf2, nf3, nf4]
    refine wpList_nil ?_
    show Code.wp _ _ _ _ _
    refine wp_seq ?_
    refine wp_seq ?_
    have hhf : (u + (bt l (p + k)).toNat % 128 * 2 ^ (7 * k)) / 2 < 9223372036854775808 := by have h := read_lt (c := (bt l (p + k))) hs.1 (by omega); generalize (u + (bt l (p + k)).toNat % 128 * 2 ^ (7 * k)) = m at *; omega
    refine wp_region_lit ?_
    refine st_mv (.int .u64 ((u + (bt l (p + k)).toNat % 128 * 2 ^ (7 * k) : Nat) : Int)) ?_
    simp only [nf0, nf1, nf2, nf3, nf4]
    refine st_value (v := (.int .u64 (((u + (bt l (p + k)).toNat % 128 * 2 ^ (7 * k)) % 2 : Nat) : Int))) (by rfl) (run_remK (.tmp 68) (.const (.int .u64 2)) rfl (k := .u64) (m := (u + (bt l (p + k)).toNat % 128 * 2 ^ (7 * k))) (n := 2) rfl rfl (by omega) w41) ?_
    simp only [nf0, nf1, nf2, nf3, nf4]
    refine st_value (v := (.bool (decide ((((u + (bt l (p + k)).toNat % 128 * 2 ^ (7 * k)) % 2 : Nat) : Int) = 1)))) (by rfl) (run_eql_int (.tmp 69) (.const (.int .u64 1)) rfl rfl rfl w41) ?_
    simp only [nf0, nf1, nf2, nf3, nf4]
    refine wpList_nil ?_
    show Code.wp _ _ _ _ _
    cases hg48 : decide ((((u + (bt l (p + k)).toNat % 128 * 2 ^ (7 * k)) % 2 : Nat) : Int) = 1)
    · have hp49 := of_decide_eq_false hg48
      refine wp_cond_false rfl ?_
      refine wp_skip ?_
      show Code.wp _ _ _ _ _
      refine wp_seq ?_
      refine wp_region_lit ?_
      refine st_mv (.int .i64 (((u + (bt l (p + k)).toNat % 128 * 2 ^ (7 * k)) / 2 : Nat) : Int)) ?_
      simp only [nf0, nf1, nf2, nf3, nf4]
      refine st_mv (.int .i64 (k : Int)) ?_
      simp only [nf0, nf1, nf2, nf3, nf4]
      refine st_value (v := (.int .i64 ((k : Int) + 1))) (by rfl) (run_add_in (.tmp 75) (.const (.int .i64 1)) rfl rfl rfl (by omega) w41) ?_
      simp only [nf0, nf1, nf2, nf3, nf4]
      refine st_mv (.int .i64 (((u + (bt l (p + k)).toNat % 128 * 2 ^ (7 * k)) / 2 : Nat) : Int)) ?_
      simp only [nf0, nf1, nf2, nf3, nf4]
      refine st_mv (.int .i64 ((k : Int) + 1)) ?_
      simp only [nf0, nf1, nf2, nf3, nf4]
      refine wpList_nil ?_
      show Code.wp _ _ _ _ _
      refine wp_ret ?_
      first | show bodyPost _ _ _ _ _ _ | (simp only [Exit.then, Exit.inBlock]; show bodyPost _ _ _ _ _ _)
      have hg : getAt l p = some ((u + (bt l (p + k)).toNat % 128 * 2 ^ (7 * k)), k + 1) := rdh_end hs hkz hcz (by omega) (by omega)
      refine bodyPost_ret (results_tmp2 rfl _ _ _) rfl ⟨?_, bel⟩
      rw [hg]
      show Ending.returned (Value.tuple #[.int .i64 (((u + (bt l (p + k)).toNat % 128 * 2 ^ (7 * k)) / 2 : Nat) : Int), .int .i64 ((k : Int) + 1)]) = Ending.returned (Value.tuple #[.int .i64 (zag (u + (bt l (p + k)).toNat % 128 * 2 ^ (7 * k))), .int .i64 ((k + 1 : Nat) : Int)])
      have hz : ((((u + (bt l (p + k)).toNat % 128 * 2 ^ (7 * k)) / 2 : Nat) : Int) : Int) = zag (u + (bt l (p + k)).toNat % 128 * 2 ^ (7 * k)) := by unfold zag; split <;> omega
      rw [hz, show (((k : Int) + 1) : Int) = ((k + 1 : Nat) : Int) by omega]
    have hp50 := of_decide_eq_true hg48
    refine wp_cond_true rfl ?_
    refine wp_region_lit ?_
    refine st_mv (.int .i64 (((u + (bt l (p + k)).toNat % 128 * 2 ^ (7 * k)) / 2 : Nat) : Int)) ?_
    simp only [nf0, nf1, nf2, nf3, nf4]
    refine st_value (v := (.int .i64 (-(((u + (bt l (p + k)).toNat % 128 * 2 ^ (7 * k)) / 2 : Nat) : Int)))) (by rfl) (run_negZ (.tmp 71) rfl (z := (((u + (bt l (p + k)).toNat % 128 * 2 ^ (7 * k)) / 2 : Nat) : Int)) (z' := -(((u + (bt l (p + k)).toNat % 128 * 2 ^ (7 * k)) / 2 : Nat) : Int)) rfl (halfN (read_lt (c := (bt l (p + k))) hs.1 (by omega))) w41) ?_
    simp only [nf0, nf1, nf2, nf3, nf4]
    refine st_value (v := (.int .i64 ((-(((u + (bt l (p + k)).toNat % 128 * 2 ^ (7 * k)) / 2 : Nat) : Int)) - 1))) (by rfl) (run_sub_in (.tmp 72) (.const (.int .i64 1)) rfl rfl rfl (by omega) w41) ?_
    simp only [nf0, nf1, nf2, nf3, nf4]
    refine st_mv (.int .i64 ((-(((u + (bt l (p + k)).toNat % 128 * 2 ^ (7 * k)) / 2 : Nat) : Int)) - 1)) ?_
    simp only [nf0, nf1, nf2, nf3, nf4]
    refine wpList_nil ?_
    show Code.wp _ _ _ _ _
    refine wp_seq ?_
    refine wp_region_lit ?_
    refine st_mv (.int .i64 ((-(((u + (bt l (p + k)).toNat % 128 * 2 ^ (7 * k)) / 2 : Nat) : Int)) - 1)) ?_
    simp only [nf0, nf1, nf2, nf3, nf4]
    refine st_mv (.int .i64 (k : Int)) ?_
    simp only [nf0, nf1, nf2, nf3, nf4]
    refine st_value (v := (.int .i64 ((k : Int) + 1))) (by rfl) (run_add_in (.tmp 75) (.const (.int .i64 1)) rfl rfl rfl (by omega) w41) ?_
    simp only [nf0, nf1, nf2, nf3, nf4]
    refine st_mv (.int .i64 ((-(((u + (bt l (p + k)).toNat % 128 * 2 ^ (7 * k)) / 2 : Nat) : Int)) - 1)) ?_
    simp only [nf0, nf1, nf2, nf3, nf4]
    refine st_mv (.int .i64 ((k : Int) + 1)) ?_
    simp only [nf0, nf1, nf2, nf3, nf4]
    refine wpList_nil ?_
    show Code.wp _ _ _ _ _
    refine wp_ret ?_
    first | show bodyPost _ _ _ _ _ _ | (simp only [Exit.then, Exit.inBlock]; show bodyPost _ _ _ _ _ _)
    have hg : getAt l p = some ((u + (bt l (p + k)).toNat % 128 * 2 ^ (7 * k)), k + 1) := rdh_end hs hkz hcz (by omega) (by omega)
    refine bodyPost_ret (results_tmp2 rfl _ _ _) rfl ⟨?_, bel⟩
    rw [hg]
    show Ending.returned (Value.tuple #[.int .i64 ((-(((u + (bt l (p + k)).toNat % 128 * 2 ^ (7 * k)) / 2 : Nat) : Int)) - 1), .int .i64 ((k : Int) + 1)]) = Ending.returned (Value.tuple #[.int .i64 (zag (u + (bt l (p + k)).toNat % 128 * 2 ^ (7 * k))), .int .i64 ((k + 1 : Nat) : Int)])
    have hz : (((-(((u + (bt l (p + k)).toNat % 128 * 2 ^ (7 * k)) / 2 : Nat) : Int)) - 1) : Int) = zag (u + (bt l (p + k)).toNat % 128 * 2 ^ (7 * k)) := by unfold zag; split <;> omega
    rw [hz, show (((k : Int) + 1) : Int) = ((k + 1 : Nat) : Int) by omega]
  have hp51 := of_decide_eq_true hg46
  refine wp_region_lit ?_
  refine st_mv (.int .i64 (k : Int)) ?_
  simp only [nf0, nf1, nf2, nf3, nf4]
  refine st_value (v := (.bool true)) (by rfl) ((run_gtr (.tmp 59) (.const (.int .i64 0)) rfl rfl rfl w41).trans (by rw [hg46])) ?_
  simp only [nf0, nf1, nf2, nf3, nf4]
  refine st_mv (.bool true) ?_
  simp only [nf0, nf1, nf2, nf3, nf4]
  refine st_mv (.int .u8 ((bt l (p + k)).toNat : Int)) ?_
  simp only [nf0, nf1, nf2, nf3, nf4]
  refine st_value (v := (.bool (decide (((bt l (p + k)).toNat : Int) = 0)))) (by rfl) (run_eql_int (.tmp 62) (.const (.int .u8 0)) rfl rfl rfl w41) ?_
  simp only [nf0, nf1, nf2, nf3, nf4]
  refine st_mv (.bool (decide (((bt l (p + k)).toNat : Int) = 0))) ?_
  simp only [nf0, nf1, nf2, nf3, nf4]
  refine wpList_nil ?_
  show Code.wp _ _ _ _ _
  cases hg52 : decide (((bt l (p + k)).toNat : Int) = 0)
  rotate_left
  · have hp57 := of_decide_eq_true hg52
    refine wp_cond_true rfl ?_
    refine wp_seq ?_
    refine wp_region_lit ?_
    refine st_mv (.int .i64 0) ?_
    simp only [nf0, nf1, nf2, nf3, nf4]
    refine st_mv (.int .i64 0) ?_
    simp only [nf0, nf1, nf2, nf3, nf4]
    refine wpList_nil ?_
    show Code.wp _ _ _ _ _
    refine wp_ret ?_
    first | show bodyPost _ _ _ _ _ _ | (simp only [Exit.then, Exit.inBlock]; show bodyPost _ _ _ _ _ _)
    have hg : getAt l p = none := rdh_bad hs hkz hZ hcz (by omega)
    exact bodyPost_ret (results_tmp2 rfl _ _ _) rfl ⟨by rw [hg]; rfl, bel⟩
  have hp53 := of_decide_eq_false hg52
  refine wp_cond_false rfl ?_
  refine wp_skip ?_
  show Code.wp _ _ _ _ _
  refine wp_seq ?_
  refine wp_region_lit ?_
  refine st_mv (.int .u64 ((u + (bt l (p + k)).toNat % 128 * 2 ^ (7 * k) : Nat) : Int)) ?_
  simp only [nf0, nf1, nf2, nf3, nf4]
  refine st_value (v := (.int .u64 (((u + (bt l (p + k)).toNat % 128 * 2 ^ (7 * k)) / 2 : Nat) : Int))) (by rfl) (run_quoW (.tmp 65) (.const (.int .u64 2)) rfl (m := (u + (bt l (p + k)).toNat % 128 * 2 ^ (7 * k))) (n := 2) rfl rfl (by omega) (read_lt hs.1 (by omega)) w41) ?_
  simp only [nf0, nf1, nf2, nf3, nf4]
  refine st_value (v := (.int .i64 (((u + (bt l (p + k)).toNat % 128 * 2 ^ (7 * k)) / 2 : Nat) : Int))) (by rfl) (run_conv_u64_i64 (.tmp 66) rfl Tryd.underlying31 Tryd.underlying3 (z := (((u + (bt l (p + k)).toNat % 128 * 2 ^ (7 * k)) / 2 : Nat) : Int)) (z' := (((u + (bt l (p + k)).toNat % 128 * 2 ^ (7 * k)) / 2 : Nat) : Int)) rfl (halfI (read_lt (c := (bt l (p + k))) hs.1 (by omega))) w41) ?_
  simp only [nf0, nf1, nf2, nf3, nf4]
  refine st_mv (.int .i64 (((u + (bt l (p + k)).toNat % 128 * 2 ^ (7 * k)) / 2 : Nat) : Int)) ?_
  simp only [nf0, nf1, nf2, nf3, nf4]
  refine wpList_nil ?_
  show Code.wp _ _ _ _ _
  refine wp_seq ?_
  refine wp_seq ?_
  have hhf : (u + (bt l (p + k)).toNat % 128 * 2 ^ (7 * k)) / 2 < 9223372036854775808 := by have h := read_lt (c := (bt l (p + k))) hs.1 (by omega); generalize (u + (bt l (p + k)).toNat % 128 * 2 ^ (7 * k)) = m at *; omega
  refine wp_region_lit ?_
  refine st_mv (.int .u64 ((u + (bt l (p + k)).toNat % 128 * 2 ^ (7 * k) : Nat) : Int)) ?_
  simp only [nf0, nf1, nf2, nf3, nf4]
  refine st_value (v := (.int .u64 (((u + (bt l (p + k)).toNat % 128 * 2 ^ (7 * k)) % 2 : Nat) : Int))) (by rfl) (run_remK (.tmp 68) (.const (.int .u64 2)) rfl (k := .u64) (m := (u + (bt l (p + k)).toNat % 128 * 2 ^ (7 * k))) (n := 2) rfl rfl (by omega) w41) ?_
  simp only [nf0, nf1, nf2, nf3, nf4]
  refine st_value (v := (.bool (decide ((((u + (bt l (p + k)).toNat % 128 * 2 ^ (7 * k)) % 2 : Nat) : Int) = 1)))) (by rfl) (run_eql_int (.tmp 69) (.const (.int .u64 1)) rfl rfl rfl w41) ?_
  simp only [nf0, nf1, nf2, nf3, nf4]
  refine wpList_nil ?_
  show Code.wp _ _ _ _ _
  cases hg54 : decide ((((u + (bt l (p + k)).toNat % 128 * 2 ^ (7 * k)) % 2 : Nat) : Int) = 1)
  · have hp55 := of_decide_eq_false hg54
    refine wp_cond_false rfl ?_
    refine wp_skip ?_
    show Code.wp _ _ _ _ _
    refine wp_seq ?_
    refine wp_region_lit ?_
    refine st_mv (.int .i64 (((u + (bt l (p + k)).toNat % 128 * 2 ^ (7 * k)) / 2 : Nat) : Int)) ?_
    simp only [nf0, nf1, nf2, nf3, nf4]
    refine st_mv (.int .i64 (k : Int)) ?_
    simp only [nf0, nf1, nf2, nf3, nf4]
    refine st_value (v := (.int .i64 ((k : Int) + 1))) (by rfl) (run_add_in (.tmp 75) (.const (.int .i64 1)) rfl rfl rfl (by omega) w41) ?_
    simp only [nf0, nf1, nf2, nf3, nf4]
    refine st_mv (.int .i64 (((u + (bt l (p + k)).toNat % 128 * 2 ^ (7 * k)) / 2 : Nat) : Int)) ?_
    simp only [nf0, nf1, nf2, nf3, nf4]
    refine st_mv (.int .i64 ((k : Int) + 1)) ?_
    simp only [nf0, nf1, nf2, nf3, nf4]
    refine wpList_nil ?_
    show Code.wp _ _ _ _ _
    refine wp_ret ?_
    first | show bodyPost _ _ _ _ _ _ | (simp only [Exit.then, Exit.inBlock]; show bodyPost _ _ _ _ _ _)
    have hg : getAt l p = some ((u + (bt l (p + k)).toNat % 128 * 2 ^ (7 * k)), k + 1) := rdh_end hs hkz hcz (by omega) (by omega)
    refine bodyPost_ret (results_tmp2 rfl _ _ _) rfl ⟨?_, bel⟩
    rw [hg]
    show Ending.returned (Value.tuple #[.int .i64 (((u + (bt l (p + k)).toNat % 128 * 2 ^ (7 * k)) / 2 : Nat) : Int), .int .i64 ((k : Int) + 1)]) = Ending.returned (Value.tuple #[.int .i64 (zag (u + (bt l (p + k)).toNat % 128 * 2 ^ (7 * k))), .int .i64 ((k + 1 : Nat) : Int)])
    have hz : ((((u + (bt l (p + k)).toNat % 128 * 2 ^ (7 * k)) / 2 : Nat) : Int) : Int) = zag (u + (bt l (p + k)).toNat % 128 * 2 ^ (7 * k)) := by unfold zag; split <;> omega
    rw [hz, show (((k : Int) + 1) : Int) = ((k + 1 : Nat) : Int) by omega]
  have hp56 := of_decide_eq_true hg54
  refine wp_cond_true rfl ?_
  refine wp_region_lit ?_
  refine st_mv (.int .i64 (((u + (bt l (p + k)).toNat % 128 * 2 ^ (7 * k)) / 2 : Nat) : Int)) ?_
  simp only [nf0, nf1, nf2, nf3, nf4]
  refine st_value (v := (.int .i64 (-(((u + (bt l (p + k)).toNat % 128 * 2 ^ (7 * k)) / 2 : Nat) : Int)))) (by rfl) (run_negZ (.tmp 71) rfl (z := (((u + (bt l (p + k)).toNat % 128 * 2 ^ (7 * k)) / 2 : Nat) : Int)) (z' := -(((u + (bt l (p + k)).toNat % 128 * 2 ^ (7 * k)) / 2 : Nat) : Int)) rfl (halfN (read_lt (c := (bt l (p + k))) hs.1 (by omega))) w41) ?_
  simp only [nf0, nf1, nf2, nf3, nf4]
  refine st_value (v := (.int .i64 ((-(((u + (bt l (p + k)).toNat % 128 * 2 ^ (7 * k)) / 2 : Nat) : Int)) - 1))) (by rfl) (run_sub_in (.tmp 72) (.const (.int .i64 1)) rfl rfl rfl (by omega) w41) ?_
  simp only [nf0, nf1, nf2, nf3, nf4]
  refine st_mv (.int .i64 ((-(((u + (bt l (p + k)).toNat % 128 * 2 ^ (7 * k)) / 2 : Nat) : Int)) - 1)) ?_
  simp only [nf0, nf1, nf2, nf3, nf4]
  refine wpList_nil ?_
  show Code.wp _ _ _ _ _
  refine wp_seq ?_
  refine wp_region_lit ?_
  refine st_mv (.int .i64 ((-(((u + (bt l (p + k)).toNat % 128 * 2 ^ (7 * k)) / 2 : Nat) : Int)) - 1)) ?_
  simp only [nf0, nf1, nf2, nf3, nf4]
  refine st_mv (.int .i64 (k : Int)) ?_
  simp only [nf0, nf1, nf2, nf3, nf4]
  refine st_value (v := (.int .i64 ((k : Int) + 1))) (by rfl) (run_add_in (.tmp 75) (.const (.int .i64 1)) rfl rfl rfl (by omega) w41) ?_
  simp only [nf0, nf1, nf2, nf3, nf4]
  refine st_mv (.int .i64 ((-(((u + (bt l (p + k)).toNat % 128 * 2 ^ (7 * k)) / 2 : Nat) : Int)) - 1)) ?_
  simp only [nf0, nf1, nf2, nf3, nf4]
  refine st_mv (.int .i64 ((k : Int) + 1)) ?_
  simp only [nf0, nf1, nf2, nf3, nf4]
  refine wpList_nil ?_
  show Code.wp _ _ _ _ _
  refine wp_ret ?_
  first | show bodyPost _ _ _ _ _ _ | (simp only [Exit.then, Exit.inBlock]; show bodyPost _ _ _ _ _ _)
  have hg : getAt l p = some ((u + (bt l (p + k)).toNat % 128 * 2 ^ (7 * k)), k + 1) := rdh_end hs hkz hcz (by omega) (by omega)
  refine bodyPost_ret (results_tmp2 rfl _ _ _) rfl ⟨?_, bel⟩
  rw [hg]
  show Ending.returned (Value.tuple #[.int .i64 ((-(((u + (bt l (p + k)).toNat % 128 * 2 ^ (7 * k)) / 2 : Nat) : Int)) - 1), .int .i64 ((k : Int) + 1)]) = Ending.returned (Value.tuple #[.int .i64 (zag (u + (bt l (p + k)).toNat % 128 * 2 ^ (7 * k))), .int .i64 ((k + 1 : Nat) : Int)])
  have hz : (((-(((u + (bt l (p + k)).toNat % 128 * 2 ^ (7 * k)) / 2 : Nat) : Int)) - 1) : Int) = zag (u + (bt l (p + k)).toNat % 128 * 2 ^ (7 * k)) := by unfold zag; split <;> omega
  rw [hz, show (((k : Int) + 1) : Int) = ((k + 1 : Nat) : Int) by omega]
end Go.Proofs.YtckmihjekgbcmaaDoor
