/- What the law DescLimits does. -/
import Derived.Test.YtkebpmcgmmhifaaDescLim
namespace Go.Proofs.Ytkebpmcgmmhifaa
open Go.RowKit Go.WideShapes Go.ChangeShapes
set_option linter.unusedSimpArgs false
set_option linter.unusedVariables false

theorem m_zero_26 : ZeroOf Try.prog 26 #[.int .i64 0, .int .i64 0, .int .i64 0] := zeroOf (z := .agg #[.int .i64 0, .int .i64 0, .int .i64 0]) (by kernel_rfl) rfl
theorem m_one_5 : One Try.prog 5 := one_of Try.underlying5 rfl (by kernel_rfl)
theorem m_run_call_9_1 {o : Oper} {a : Act} (x0 : Operand) {ts : Array TypeId} (ho : o.op = .call { callee := .value (.func 9), args := #[x0], argTypes := ts }) {v0 : Value} (h0 : a.eval x0 = v0) (W : World) : (execOp a.eval o).run Try.prog W = .ok (.enter 9 #[v0]) W := by
  unfold execOp
  simp only [ho]
  subst h0
  go_simp
theorem m_run_call_13_0 {o : Oper} {a : Act}  {ts : Array TypeId} (ho : o.op = .call { callee := .value (.func 13), args := #[], argTypes := ts })  (W : World) : (execOp a.eval o).run Try.prog W = .ok (.enter 13 #[]) W := by
  unfold execOp
  simp only [ho]
  go_simp
theorem m_run_call_14_1 {o : Oper} {a : Act} (x0 : Operand) {ts : Array TypeId} (ho : o.op = .call { callee := .value (.func 14), args := #[x0], argTypes := ts }) {v0 : Value} (h0 : a.eval x0 = v0) (W : World) : (execOp a.eval o).run Try.prog W = .ok (.enter 14 #[v0]) W := by
  unfold execOp
  simp only [ho]
  subst h0
  go_simp

attribute [local irreducible] Go.wpList Go.Code.wp
set_option maxRecDepth 100000 in
set_option maxHeartbeats 4000000 in
theorem limits_A {n0 : Int} {N : Nat} (hN : max 1 (min n0 65538) = (N : Int)) (hN1 : 1 ≤ N) (hw : N ≤ 32) (w : World) : Calls Try.prog 6 #[.int .i64 n0] w fun e w' => e = .returned (.bool true) ∧ Below w.heap.size w w' := by
  have bel : Below w.heap.size w w := Below.refl _ _
  have hL1 := lim1 hN1 (by omega)
  have hL2 := lim2 (N := N)
  rw [if_pos (by omega)] at hL1
  rw [if_pos (by omega)] at hL2
  have hl1 := hL1.2 (by omega)
  have hl2 := hL2.2 (by omega)
  go_enter Try.func6, Try.ntmps6
  refine wp_seq ?_
  refine wp_region_lit ?_
  refine st_mv (.bool false) ?_
  simp only [nf0, nf1, nf2, nf3, nf4]
  refine wpList_nil ?_
  show Code.wp _ _ _ _ _
  refine wp_seq ?_
  refine wp_region_lit ?_
  refine st_mv (.int .i64 n0) ?_
  simp only [nf0, nf1, nf2, nf3, nf4]
  refine st_value (v := (.int .i64 (min n0 65538))) (by rfl) (run_min2 (.tmp 12) (.const (.int .i64 65538)) rfl rfl rfl w) ?_
  simp only [nf0, nf1, nf2, nf3, nf4]
  refine st_value (v := (.int .i64 (N : Int))) (by rfl) ((run_max2 (.const (.int .i64 1)) (.tmp 13) rfl rfl rfl w).trans (by rw [hN])) ?_
  simp only [nf0, nf1, nf2, nf3, nf4]
  refine st_mv (.int .i64 (N : Int)) ?_
  simp only [nf0, nf1, nf2, nf3, nf4]
  refine wpList_nil ?_
  show Code.wp _ _ _ _ _
  refine wp_seq ?_
  refine wp_region_lit ?_
  refine st_mv (.int .i64 (N : Int)) ?_
  simp only [nf0, nf1, nf2, nf3, nf4]
  refine st_lit (n := N) (by rfl) (run_makeRow (k := .u8) (bytes := 1) (.tmp 15) rfl Try.underlying38 (by kernel_rfl) (N := N) rfl (by omega) (by omega) (by omega) (by omega) _) ?_
  intro g1 w2 B3 hb4 lo5
  simp only [nf0, nf1, nf2, nf3, nf4]
  replace lo5 := low_le bel lo5
  replace bel := bl_step bel hb4
  clear hb4
  refine st_mv (.slice (some ⟨g1, 0, none⟩) N N) ?_
  simp only [nf0, nf1, nf2, nf3, nf4]
  refine wpList_nil ?_
  show Code.wp _ _ _ _ _
  refine wp_seq ?_
  refine wp_seq ?_
  refine wp_region_lit ?_
  refine st_mv (.slice (some ⟨g1, 0, none⟩) N N) ?_
  simp only [nf0, nf1, nf2, nf3, nf4]
  refine st_value (v := (.int .i64 (N : Int))) (by rfl) (run_len (.tmp 17) rfl ⟨_, Try.underlying38⟩ rfl w2) ?_
  simp only [nf0, nf1, nf2, nf3, nf4]
  refine st_mv (.int .i64 0) ?_
  simp only [nf0, nf1, nf2, nf3, nf4]
  refine wpList_nil ?_
  show Code.wp _ _ _ _ _
  refine wp_block ?_
  refine wp_loop_left (fun n_ a_ wr_ => (fun J6 => ∃ (k : Nat), n_ = N - k ∧ a_ = ⟨#[.int .i64 (N : Int), J6 1, .bool false, .slice (some ⟨g1, 0, none⟩) N N, J6 4, J6 5, J6 6, J6 7, J6 8, J6 9, J6 10, J6 11, J6 12, J6 13, J6 14, J6 15, J6 16, .slice (some ⟨g1, 0, none⟩) N N, .int .i64 (N : Int), .int .i64 (k : Int), J6 20, J6 21, J6 22, J6 23, J6 24, J6 25, J6 26, J6 27, J6 28, J6 29, J6 30, J6 31, J6 32, J6 33, J6 34, J6 35, J6 36, J6 37, J6 38, J6 39, J6 40, J6 41, J6 42, J6 43, J6 44, J6 45, J6 46, J6 47, J6 48, J6 49, J6 50, J6 51, J6 52, J6 53, J6 54, J6 55, J6 56, J6 57, J6 58, J6 59, J6 60, J6 61, J6 62, J6 63, J6 64, J6 65, J6 66, J6 67, J6 68, J6 69, J6 70, J6 71, J6 72, J6 73, J6 74, J6 75, J6 76, J6 77, J6 78, J6 79, J6 80, J6 81, J6 82, J6 83, J6 84, J6 85, J6 86, J6 87, J6 88, J6 89, J6 90, J6 91, J6 92, J6 93, J6 94, J6 95, J6 96, J6 97, J6 98], []⟩ ∧ Blk wr_ g1 (irow .u8 (fillL 97 k (List.replicate N (0 : Int)))) 5 ∧ Below w.heap.size w wr_ ∧ (k ≤ N)) (jk a_)) (N - 0) ⟨0, rfl, rfl, (by rw [fillL_0]; exact B3), bel, (Nat.zero_le _)⟩ ?_
  clear B3
  clear bel
  intro n_ a_ w7 h_
  revert h_
  generalize jk a_ = J6
  rintro ⟨k, hms, rfl, B3, bel, hkk⟩
  have hfl : (fillL 97 k (List.replicate N (0 : Int))).length = N := by rw [fillL_len (by simp; omega)]; simp
  refine wp_seq ?_
  refine wp_region_lit ?_
  refine st_value (v := (.bool (decide ((k : Int) < (N : Int))))) (by rfl) (run_lss (.tmp 19) (.tmp 18) rfl rfl rfl w7) ?_
  simp only [nf0, nf1, nf2, nf3, nf4]
  refine wpList_nil ?_
  show Code.wp _ _ _ _ _
  refine wp_seq ?_
  cases hg8 : decide ((k : Int) < (N : Int))
  rotate_left
  · have hp90 := of_decide_eq_true hg8
    refine wp_cond_true rfl ?_
    refine wp_skip ?_
    show Code.wp _ _ _ _ _
    refine wp_seq ?_
    refine wp_block ?_
    refine wp_seq ?_
    refine wp_region_lit ?_
    refine st_mv (.int .i64 (k : Int)) ?_
    simp only [nf0, nf1, nf2, nf3, nf4]
    refine st_mv (.int .i64 (k : Int)) ?_
    simp only [nf0, nf1, nf2, nf3, nf4]
    refine wpList_nil ?_
    show Code.wp _ _ _ _ _
    refine wp_region_lit ?_
    refine st_mv (.slice (some ⟨g1, 0, none⟩) N N) ?_
    simp only [nf0, nf1, nf2, nf3, nf4]
    refine st_mv (.int .i64 (k : Int)) ?_
    simp only [nf0, nf1, nf2, nf3, nf4]
    refine st_value (v := (.pointer (some ⟨g1, k, none⟩))) (by rfl) (run_index1 (.tmp 22) (.tmp 23) rfl Try.underlying38 (by kernel_rfl) rfl rfl (by omega) (by omega) w7) ?_
    simp only [nf0, nf1, nf2, nf3, nf4]
    refine st_cell (v := (.int .u8 97)) (by rfl) (run_storeB (.tmp 24) (.const (.int .u8 97)) rfl m_one_5 B3 (irow_lt (by omega)) rfl rfl rfl rfl) B3 ?_
    intro w91 B93 hg92
    simp only [nf0, nf1, nf2, nf3, nf4]
    replace bel := bl_kept0 bel hg92 lo5
    clear hg92
    clear B3
    rw [irow_set] at B93
    refine wpList_nil ?_
    show Code.wp _ _ _ _ _
    refine wp_region_lit ?_
    refine st_value (v := (.int .i64 ((k : Int) + 1))) (by rfl) (run_add_in (.tmp 19) (.const (.int .i64 1)) rfl rfl rfl (by omega) w91) ?_
    simp only [nf0, nf1, nf2, nf3, nf4]
    refine st_mv (.int .i64 ((k : Int) + 1)) ?_
    simp only [nf0, nf1, nf2, nf3, nf4]
    refine wpList_nil ?_
    show ∃ m, m < _ ∧ _
    exact ⟨_, (by omega), (k + 1), rfl, rfl, (by have h_ := B93; rw [fillL_set (by rw [List.length_replicate]; omega)] at h_; exact h_), bel, (by omega)⟩
  have hp9 := of_decide_eq_false hg8
  refine wp_cond_false rfl ?_
  refine wp_exit ?_
  show Code.wp _ _ _ _ _
  refine wp_seq ?_
  have hkN : k = (List.replicate N (0 : Int)).length := by rw [List.length_replicate]; omega
  have B10 : Blk w7 g1 (irow .u8 ((List.replicate N (97 : UInt8)).map fun c => (c.toNat : Int))) 5 := by have h_ := B3; rw [hkN, fillL_end] at h_; rw [rep_map]; rw [List.length_replicate] at h_; exact h_
  clear B3
  refine wp_region_lit ?_
  refine st_mv (.slice (some ⟨g1, 0, none⟩) N N) ?_
  simp only [nf0, nf1, nf2, nf3, nf4]
  refine st_value (v := (.string (str (List.replicate N (97 : UInt8))))) (by rfl) (run_convI (xs := (List.replicate N (97 : UInt8))) (.tmp 27) rfl rfl (List.length_replicate ..) B10) ?_
  simp only [nf0, nf1, nf2, nf3, nf4]
  have hc14 := allAny_calls (l := (List.replicate N (97 : UInt8))) (by rw [List.length_replicate]; omega) w7
  rw [hL1.1] at hc14
  refine st_call (by rfl) (m_run_call_9_1 (.tmp 28) rfl rfl _) hc14 ?_
  rintro _ w15 ⟨v11, rfl, O12, hf16⟩
  simp only [nf0, nf1, nf2, nf3, nf4]
  have n17 := O12.offLow B10
  replace O12 := O12.lower bel.size
  replace B10 := B10.below hf16
  replace bel := bl_step bel hf16
  clear hf16
  refine st_mv (.tuple #[v11, .int .i64 0, .agg #[.int .i64 ((desP (List.replicate N (97 : UInt8))).1), .int .i64 ((desP (List.replicate N (97 : UInt8))).2.1), .int .i64 ((desP (List.replicate N (97 : UInt8))).2.2)]]) ?_
  simp only [nf0, nf1, nf2, nf3, nf4]
  refine st_mv v11 ?_
  simp only [nf0, nf1, nf2, nf3, nf4]
  refine st_mv (.int .i64 0) ?_
  simp only [nf0, nf1, nf2, nf3, nf4]
  refine st_mv (.agg #[.int .i64 ((desP (List.replicate N (97 : UInt8))).1), .int .i64 ((desP (List.replicate N (97 : UInt8))).2.1), .int .i64 ((desP (List.replicate N (97 : UInt8))).2.2)]) ?_
  simp only [nf0, nf1, nf2, nf3, nf4]
  refine st_new (cs := #[.int .i64 0, .int .i64 0, .int .i64 0]) (t := 26) (by rfl) (run_allocV rfl m_zero_26 _) ?_
  intro g18 w19 B20 hb21 lo22
  simp only [nf0, nf1, nf2, nf3, nf4]
  have n23 := B10.ne lo22
  have n24 := O12.off lo22
  replace lo22 := low_le bel lo22
  replace B10 := B10.below hb21
  replace O12 := O12.same hb21
  replace bel := bl_step bel hb21
  clear hb21
  refine st_mv v11 ?_
  simp only [nf0, nf1, nf2, nf3, nf4]
  refine st_mv (.int .i64 0) ?_
  simp only [nf0, nf1, nf2, nf3, nf4]
  refine st_row (by rfl) (run_storeW (.tmp 7) (.tmp 32) rfl (cs := #[.int .i64 ((desP (List.replicate N (97 : UInt8))).1), .int .i64 ((desP (List.replicate N (97 : UInt8))).2.1), .int .i64 ((desP (List.replicate N (97 : UInt8))).2.2)]) aggPl rfl rfl B20 rfl (by simp [Value.oneCell'])) B20 ?_
  intro w25 B27 hg26
  simp only [nf0, nf1, nf2, nf3, nf4]
  replace B10 := B10.kept hg26 n23
  replace O12 := O12.keptB hg26 n24
  replace bel := bl_kept0 bel hg26 lo22
  clear hg26
  clear B20
  refine wpList_nil ?_
  show Code.wp _ _ _ _ _
  refine wp_seq ?_
  refine wp_seq ?_
  cases hg28 : decide (32 < (N : Int))
  rotate_left
  · have hp89 := of_decide_eq_true hg28
    exfalso
    omega
  have hp29 := of_decide_eq_false hg28
  cases hg30 : decide ((N : Int) ≤ 32)
  · have hp31 := of_decide_eq_false hg30
    exfalso
    omega
  have hp32 := of_decide_eq_true hg30
  refine wp_region_lit ?_
  refine st_mv (.int .i64 (N : Int)) ?_
  simp only [nf0, nf1, nf2, nf3, nf4]
  refine st_value (v := (.bool false)) (by rfl) ((run_gtr (.tmp 33) (.const (.int .i64 32)) rfl rfl rfl w25).trans (by rw [hg28])) ?_
  simp only [nf0, nf1, nf2, nf3, nf4]
  refine st_mv (.bool false) ?_
  simp only [nf0, nf1, nf2, nf3, nf4]
  refine st_nob (j := 2) (t := 35) (c := false) rfl rfl rfl rfl rfl ?_
  simp only [nf0, nf1, nf2, nf3, nf4]
  refine st_nob (j := 2) (t := 35) (c := false) rfl rfl rfl rfl rfl ?_
  simp only [nf0, nf1, nf2, nf3, nf4]
  refine st_mv (.bool false) ?_
  simp only [nf0, nf1, nf2, nf3, nf4]
  refine st_mv (.bool false) ?_
  simp only [nf0, nf1, nf2, nf3, nf4]
  refine st_mv (.int .i64 (N : Int)) ?_
  simp only [nf0, nf1, nf2, nf3, nf4]
  refine st_value (v := (.bool true)) (by rfl) ((run_leq (.tmp 40) (.const (.int .i64 32)) rfl rfl rfl w25).trans (by rw [hg30])) ?_
  simp only [nf0, nf1, nf2, nf3, nf4]
  refine st_mv (.bool true) ?_
  simp only [nf0, nf1, nf2, nf3, nf4]
  refine st_mv (.int .i64 0) ?_
  simp only [nf0, nf1, nf2, nf3, nf4]
  refine st_value (v := (.bool false)) (by rfl) (run_neq_int_t (.tmp 43) (.const (.int .i64 0)) rfl rfl rfl rfl w25) ?_
  simp only [nf0, nf1, nf2, nf3, nf4]
  refine st_mv (.bool false) ?_
  simp only [nf0, nf1, nf2, nf3, nf4]
  refine st_mv v11 ?_
  simp only [nf0, nf1, nf2, nf3, nf4]
  obtain ⟨A33, c34, hv35, h36, h37, h38, R39⟩ := O12.reads
  refine st_value (v := (.int .i64 ((desR (List.replicate N (97 : UInt8))).length : Int))) (by rfl) (run_len (.tmp 46) rfl ⟨_, Try.underlying23⟩ (by exact hv35) w25) ?_
  simp only [nf0, nf1, nf2, nf3, nf4]
  refine st_value (v := (.bool false)) (by rfl) (run_neq_int_t (.tmp 47) (.const (.int .i64 1)) rfl rfl rfl (by omega) w25) ?_
  simp only [nf0, nf1, nf2, nf3, nf4]
  refine st_mv (.bool false) ?_
  simp only [nf0, nf1, nf2, nf3, nf4]
  refine st_mv (.bool false) ?_
  simp only [nf0, nf1, nf2, nf3, nf4]
  refine st_mv (.bool false) ?_
  simp only [nf0, nf1, nf2, nf3, nf4]
  refine st_mv (.bool false) ?_
  simp only [nf0, nf1, nf2, nf3, nf4]
  refine st_mv (.slice (some ⟨g1, 0, none⟩) N N) ?_
  simp only [nf0, nf1, nf2, nf3, nf4]
  refine st_value (v := (.string (str (List.replicate N (97 : UInt8))))) (by rfl) (run_convI (xs := (List.replicate N (97 : UInt8))) (.tmp 53) rfl rfl (List.length_replicate ..) B10) ?_
  simp only [nf0, nf1, nf2, nf3, nf4]
  refine st_call1 (v := (.bool true)) (by rfl) (m_run_call_14_1 (.tmp 54) rfl rfl _) (show Calls _ _ _ _ fun e w' => e = .returned (.bool true) ∧ Below w25.heap.size w25 w' from by have h_ := isName_calls (List.replicate N (97 : UInt8)) (by rw [List.length_replicate]; omega) w25; rw [lim_name hN1, decide_eq_true (by omega)] at h_; exact h_) ?_
  intro w40 hb41
  simp only [nf0, nf1, nf2, nf3, nf4]
  replace B10 := B10.below hb41
  replace O12 := O12.same hb41
  replace B27 := B27.below hb41
  replace bel := bl_step bel hb41
  clear hb41
  refine st_mv (.int .i64 (N : Int)) ?_
  simp only [nf0, nf1, nf2, nf3, nf4]
  refine st_value (v := (.bool true)) (by rfl) ((run_leq (.tmp 56) (.const (.int .i64 32)) rfl rfl rfl w40).trans (by rw [hg30])) ?_
  simp only [nf0, nf1, nf2, nf3, nf4]
  refine st_value (v := (.bool false)) (by rfl) (runm_neq_bool (.tmp 55) (.tmp 57) rfl Try.underlying4 (b := true) (c := true) rfl rfl w40) ?_
  simp only [nf0, nf1, nf2, nf3, nf4]
  refine st_mv (.bool false) ?_
  simp only [nf0, nf1, nf2, nf3, nf4]
  refine wpList_nil ?_
  show Code.wp _ _ _ _ _
  refine wp_cond_false rfl ?_
  refine wp_skip ?_
  show Code.wp _ _ _ _ _
  refine wp_seq ?_
  refine wp_seq ?_
  refine wp_region_lit ?_
  refine st_mv (.slice (some ⟨g1, 0, none⟩) N N) ?_
  simp only [nf0, nf1, nf2, nf3, nf4]
  refine st_value (v := (.int .i64 (N : Int))) (by rfl) (run_len (.tmp 60) rfl ⟨_, Try.underlying38⟩ rfl w40) ?_
  simp only [nf0, nf1, nf2, nf3, nf4]
  refine st_mv (.int .i64 0) ?_
  simp only [nf0, nf1, nf2, nf3, nf4]
  refine wpList_nil ?_
  show Code.wp _ _ _ _ _
  refine wp_block ?_
  refine wp_loop_left (fun n_ a_ wr_ => (fun J42 => ∃ (q : Nat), n_ = N - q ∧ a_ = ⟨#[.int .i64 (N : Int), J42 1, .bool false, .slice (some ⟨g1, 0, none⟩) N N, J42 4, v11, .int .i64 0, .pointer (some ⟨g18, 0, none⟩), J42 8, J42 9, J42 10, J42 11, J42 12, J42 13, J42 14, J42 15, J42 16, J42 17, J42 18, J42 19, J42 20, J42 21, J42 22, J42 23, J42 24, J42 25, J42 26, J42 27, J42 28, J42 29, J42 30, J42 31, J42 32, J42 33, J42 34, J42 35, J42 36, J42 37, J42 38, J42 39, J42 40, J42 41, J42 42, J42 43, J42 44, J42 45, J42 46, J42 47, J42 48, J42 49, J42 50, J42 51, J42 52, J42 53, J42 54, J42 55, J42 56, J42 57, J42 58, J42 59, .slice (some ⟨g1, 0, none⟩) N N, .int .i64 (N : Int), .int .i64 (q : Int), J42 63, J42 64, J42 65, J42 66, J42 67, J42 68, J42 69, J42 70, J42 71, J42 72, J42 73, J42 74, J42 75, J42 76, J42 77, J42 78, J42 79, J42 80, J42 81, J42 82, J42 83, J42 84, J42 85, J42 86, J42 87, J42 88, J42 89, J42 90, J42 91, J42 92, J42 93, J42 94, J42 95, J42 96, J42 97, J42 98], []⟩ ∧ Blk wr_ g1 (irow .u8 (fillL 59 q ((List.replicate N (97 : UInt8)).map fun c => (c.toNat : Int)))) 5 ∧ OwnR wr_ w.heap.size 33 eTok v11 (desR (List.replicate N (97 : UInt8))) ∧ Blk wr_ g18 #[.int .i64 ((desP (List.replicate N (97 : UInt8))).1), .int .i64 ((desP (List.replicate N (97 : UInt8))).2.1), .int .i64 ((desP (List.replicate N (97 : UInt8))).2.2)] 26 ∧ Off v11 g1 ∧ Off v11 g18 ∧ Below w.heap.size w wr_ ∧ (q ≤ N)) (jk a_)) (N - 0) ⟨0, rfl, rfl, (by rw [fillL_0]; exact B10), O12, B27, n17, n24, bel, (Nat.zero_le _)⟩ ?_
  clear B10
  clear O12
  clear B27
  clear n17 n24
  clear bel
  intro n_ a_ w45 h_
  revert h_
  generalize jk a_ = J42
  rintro ⟨q, hms, rfl, B10, O12, B27, n43, n44, bel, hkq⟩
  have hfl : (fillL 59 q ((List.replicate N (97 : UInt8)).map fun c => (c.toNat : Int))).length = N := by rw [fillL_len (by simp; omega)]; simp
  refine wp_seq ?_
  refine wp_region_lit ?_
  refine st_value (v := (.bool (decide ((q : Int) < (N : Int))))) (by rfl) (run_lss (.tmp 62) (.tmp 61) rfl rfl rfl w45) ?_
  simp only [nf0, nf1, nf2, nf3, nf4]
  refine wpList_nil ?_
  show Code.wp _ _ _ _ _
  refine wp_seq ?_
  cases hg46 : decide ((q : Int) < (N : Int))
  rotate_left
  · have hp85 := of_decide_eq_true hg46
    refine wp_cond_true rfl ?_
    refine wp_skip ?_
    show Code.wp _ _ _ _ _
    refine wp_seq ?_
    refine wp_block ?_
    refine wp_seq ?_
    refine wp_region_lit ?_
    refine st_mv (.int .i64 (q : Int)) ?_
    simp only [nf0, nf1, nf2, nf3, nf4]
    refine st_mv (.int .i64 (q : Int)) ?_
    simp only [nf0, nf1, nf2, nf3, nf4]
    refine wpList_nil ?_
    show Code.wp _ _ _ _ _
    refine wp_region_lit ?_
    refine st_mv (.slice (some ⟨g1, 0, none⟩) N N) ?_
    simp only [nf0, nf1, nf2, nf3, nf4]
    refine st_mv (.int .i64 (q : Int)) ?_
    simp only [nf0, nf1, nf2, nf3, nf4]
    refine st_value (v := (.pointer (some ⟨g1, q, none⟩))) (by rfl) (run_index1 (.tmp 65) (.tmp 66) rfl Try.underlying38 (by kernel_rfl) rfl rfl (by omega) (by omega) w45) ?_
    simp only [nf0, nf1, nf2, nf3, nf4]
    refine st_cell (v := (.int .u8 59)) (by rfl) (run_storeB (.tmp 67) (.const (.int .u8 59)) rfl m_one_5 B10 (irow_lt (by omega)) rfl rfl rfl rfl) B10 ?_
    intro w86 B88 hg87
    simp only [nf0, nf1, nf2, nf3, nf4]
    replace O12 := O12.keptB hg87 n43
    replace B27 := B27.kept hg87 n23.symm
    replace bel := bl_kept0 bel hg87 lo5
    clear hg87
    clear B10
    rw [irow_set] at B88
    refine wpList_nil ?_
    show Code.wp _ _ _ _ _
    refine wp_region_lit ?_
    refine st_value (v := (.int .i64 ((q : Int) + 1))) (by rfl) (run_add_in (.tmp 62) (.const (.int .i64 1)) rfl rfl rfl (by omega) w86) ?_
    simp only [nf0, nf1, nf2, nf3, nf4]
    refine st_mv (.int .i64 ((q : Int) + 1)) ?_
    simp only [nf0, nf1, nf2, nf3, nf4]
    refine wpList_nil ?_
    show ∃ m, m < _ ∧ _
    exact ⟨_, (by omega), (q + 1), rfl, rfl, (by have h_ := B88; rw [fillL_set (by rw [List.length_map, List.length_replicate]; omega)] at h_; exact h_), O12, B27, n43, n44, bel, (by omega)⟩
  have hp47 := of_decide_eq_false hg46
  refine wp_cond_false rfl ?_
  refine wp_exit ?_
  show Code.wp _ _ _ _ _
  refine wp_seq ?_
  have hqN : q = ((List.replicate N (97 : UInt8)).map fun c => (c.toNat : Int)).length := by rw [List.length_map, List.length_replicate]; omega
  have B48 : Blk w45 g1 (irow .u8 ((List.replicate N (59 : UInt8)).map fun c => (c.toNat : Int))) 5 := by have h_ := B10; rw [hqN, fillL_end] at h_; rw [rep_map]; rw [List.length_map, List.length_replicate] at h_; exact h_
  clear B10
  refine wp_region_lit ?_
  refine st_mv (.slice (some ⟨g1, 0, none⟩) N N) ?_
  simp only [nf0, nf1, nf2, nf3, nf4]
  refine st_value (v := (.string (str (List.replicate N (59 : UInt8))))) (by rfl) (run_convI (xs := (List.replicate N (59 : UInt8))) (.tmp 70) rfl rfl (List.length_replicate ..) B48) ?_
  simp only [nf0, nf1, nf2, nf3, nf4]
  have hc52 := allAny_calls (l := (List.replicate N (59 : UInt8))) (by rw [List.length_replicate]; omega) w45
  rw [hL2.1] at hc52
  refine st_call (by rfl) (m_run_call_9_1 (.tmp 71) rfl rfl _) hc52 ?_
  rintro _ w53 ⟨v49, rfl, O50, hf54⟩
  simp only [nf0, nf1, nf2, nf3, nf4]
  have n55 := O50.offLow B48
  have n56 := O50.offLow2 O12
  have n57 := O50.offLow B27
  replace O50 := O50.lower bel.size
  replace B48 := B48.below hf54
  replace O12 := O12.same hf54
  replace B27 := B27.below hf54
  replace bel := bl_step bel hf54
  clear hf54
  refine st_mv (.tuple #[v49, .int .i64 0, .agg #[.int .i64 ((desP (List.replicate N (59 : UInt8))).1), .int .i64 ((desP (List.replicate N (59 : UInt8))).2.1), .int .i64 ((desP (List.replicate N (59 : UInt8))).2.2)]]) ?_
  simp only [nf0, nf1, nf2, nf3, nf4]
  refine st_mv v49 ?_
  simp only [nf0, nf1, nf2, nf3, nf4]
  refine st_mv (.int .i64 0) ?_
  simp only [nf0, nf1, nf2, nf3, nf4]
  refine st_mv (.agg #[.int .i64 ((desP (List.replicate N (59 : UInt8))).1), .int .i64 ((desP (List.replicate N (59 : UInt8))).2.1), .int .i64 ((desP (List.replicate N (59 : UInt8))).2.2)]) ?_
  simp only [nf0, nf1, nf2, nf3, nf4]
  refine st_new (cs := #[.int .i64 0, .int .i64 0, .int .i64 0]) (t := 26) (by rfl) (run_allocV rfl m_zero_26 _) ?_
  intro g58 w59 B60 hb61 lo62
  simp only [nf0, nf1, nf2, nf3, nf4]
  have n63 := B48.ne lo62
  have n64 := O12.off lo62
  have n65 := B27.ne lo62
  have n66 := O50.off lo62
  replace lo62 := low_le bel lo62
  replace B48 := B48.below hb61
  replace O12 := O12.same hb61
  replace B27 := B27.below hb61
  replace O50 := O50.same hb61
  replace bel := bl_step bel hb61
  clear hb61
  refine st_mv v49 ?_
  simp only [nf0, nf1, nf2, nf3, nf4]
  refine st_mv (.int .i64 0) ?_
  simp only [nf0, nf1, nf2, nf3, nf4]
  refine st_row (by rfl) (run_storeW (.tmp 11) (.tmp 75) rfl (cs := #[.int .i64 ((desP (List.replicate N (59 : UInt8))).1), .int .i64 ((desP (List.replicate N (59 : UInt8))).2.1), .int .i64 ((desP (List.replicate N (59 : UInt8))).2.2)]) aggPl rfl rfl B60 rfl (by simp [Value.oneCell'])) B60 ?_
  intro w67 B69 hg68
  simp only [nf0, nf1, nf2, nf3, nf4]
  replace B48 := B48.kept hg68 n63
  replace O12 := O12.keptB hg68 n64
  replace B27 := B27.kept hg68 n65
  replace O50 := O50.keptB hg68 n66
  replace bel := bl_kept0 bel hg68 lo62
  clear hg68
  clear B60
  refine wpList_nil ?_
  show Code.wp _ _ _ _ _
  refine wp_seq ?_
  cases hg70 : decide (65536 < (N : Int))
  rotate_left
  · have hp84 := of_decide_eq_true hg70
    exfalso
    omega
  have hp71 := of_decide_eq_false hg70
  cases hg72 : decide ((N : Int) ≤ 65536)
  · have hp73 := of_decide_eq_false hg72
    exfalso
    omega
  have hp74 := of_decide_eq_true hg72
  refine wp_region_lit ?_
  refine st_mv (.int .i64 (N : Int)) ?_
  simp only [nf0, nf1, nf2, nf3, nf4]
  refine st_value (v := (.bool false)) (by rfl) ((run_gtr (.tmp 76) (.const (.int .i64 65536)) rfl rfl rfl w67).trans (by rw [hg70])) ?_
  simp only [nf0, nf1, nf2, nf3, nf4]
  refine st_mv (.bool false) ?_
  simp only [nf0, nf1, nf2, nf3, nf4]
  refine st_nob (j := 2) (t := 78) (c := false) rfl rfl rfl rfl rfl ?_
  simp only [nf0, nf1, nf2, nf3, nf4]
  refine st_nob (j := 2) (t := 78) (c := false) rfl rfl rfl rfl rfl ?_
  simp only [nf0, nf1, nf2, nf3, nf4]
  refine st_mv (.bool false) ?_
  simp only [nf0, nf1, nf2, nf3, nf4]
  refine st_mv (.bool false) ?_
  simp only [nf0, nf1, nf2, nf3, nf4]
  refine st_mv (.int .i64 (N : Int)) ?_
  simp only [nf0, nf1, nf2, nf3, nf4]
  refine st_value (v := (.bool true)) (by rfl) ((run_leq (.tmp 83) (.const (.int .i64 65536)) rfl rfl rfl w67).trans (by rw [hg72])) ?_
  simp only [nf0, nf1, nf2, nf3, nf4]
  refine st_mv (.bool true) ?_
  simp only [nf0, nf1, nf2, nf3, nf4]
  refine st_mv (.int .i64 0) ?_
  simp only [nf0, nf1, nf2, nf3, nf4]
  refine st_value (v := (.bool true)) (by rfl) (run_eql_int_t (.tmp 86) (.const (.int .i64 0)) rfl rfl rfl rfl w67) ?_
  simp only [nf0, nf1, nf2, nf3, nf4]
  refine st_mv (.bool true) ?_
  simp only [nf0, nf1, nf2, nf3, nf4]
  refine st_mv (.bool true) ?_
  simp only [nf0, nf1, nf2, nf3, nf4]
  refine st_mv v49 ?_
  simp only [nf0, nf1, nf2, nf3, nf4]
  obtain ⟨A75, c76, hv77, h78, h79, h80, R81⟩ := O50.reads
  refine st_value (v := (.int .i64 ((desR (List.replicate N (59 : UInt8))).length : Int))) (by rfl) (run_len (.tmp 90) rfl ⟨_, Try.underlying23⟩ (by exact hv77) w67) ?_
  simp only [nf0, nf1, nf2, nf3, nf4]
  refine st_mv (.int .i64 (N : Int)) ?_
  simp only [nf0, nf1, nf2, nf3, nf4]
  refine st_value (v := (.bool true)) (by rfl) (run_eql_int_t (.tmp 91) (.tmp 92) rfl rfl rfl (by omega) w67) ?_
  simp only [nf0, nf1, nf2, nf3, nf4]
  refine st_mv (.bool true) ?_
  simp only [nf0, nf1, nf2, nf3, nf4]
  refine st_mv (.bool true) ?_
  simp only [nf0, nf1, nf2, nf3, nf4]
  refine st_mv (.bool true) ?_
  simp only [nf0, nf1, nf2, nf3, nf4]
  refine st_call1 (v := (.bool true)) (by rfl) (m_run_call_13_0  rfl  _) (descLives_calls w67) ?_
  intro w82 hb83
  simp only [nf0, nf1, nf2, nf3, nf4]
  replace B48 := B48.below hb83
  replace O12 := O12.same hb83
  replace B27 := B27.below hb83
  replace O50 := O50.same hb83
  replace B69 := B69.below hb83
  replace bel := bl_step bel hb83
  clear hb83
  refine st_mv (.bool true) ?_
  simp only [nf0, nf1, nf2, nf3, nf4]
  refine st_mv (.bool true) ?_
  simp only [nf0, nf1, nf2, nf3, nf4]
  refine wpList_nil ?_
  show Code.wp _ _ _ _ _
  refine wp_ret ?_
  first | show bodyPost _ _ _ _ _ _ | (simp only [Exit.then, Exit.inBlock]; show bodyPost _ _ _ _ _ _)
  exact bodyPost_ret (results_tmp rfl _ _ _) rfl ⟨rfl, bel⟩
set_option maxRecDepth 100000 in
set_option maxHeartbeats 4000000 in
theorem limits_B {n0 : Int} {N : Nat} (hN : max 1 (min n0 65538) = (N : Int)) (hN1 : 1 ≤ N) (hw : 32 < N ∧ N ≤ 65536) (w : World) : Calls Try.prog 6 #[.int .i64 n0] w fun e w' => e = .returned (.bool true) ∧ Below w.heap.size w w' := by
  have bel : Below w.heap.size w w := Below.refl _ _
  have hL1 := lim1 hN1 (by omega)
  have hL2 := lim2 (N := N)
  rw [if_neg (by omega)] at hL1
  rw [if_pos (by omega)] at hL2
  have hl2 := hL2.2 (by omega)
  go_enter Try.func6, Try.ntmps6
  refine wp_seq ?_
  refine wp_region_lit ?_
  refine st_mv (.bool false) ?_
  simp only [nf0, nf1, nf2, nf3, nf4]
  refine wpList_nil ?_
  show Code.wp _ _ _ _ _
  refine wp_seq ?_
  refine wp_region_lit ?_
  refine st_mv (.int .i64 n0) ?_
  simp only [nf0, nf1, nf2, nf3, nf4]
  refine st_value (v := (.int .i64 (min n0 65538))) (by rfl) (run_min2 (.tmp 12) (.const (.int .i64 65538)) rfl rfl rfl w) ?_
  simp only [nf0, nf1, nf2, nf3, nf4]
  refine st_value (v := (.int .i64 (N : Int))) (by rfl) ((run_max2 (.const (.int .i64 1)) (.tmp 13) rfl rfl rfl w).trans (by rw [hN])) ?_
  simp only [nf0, nf1, nf2, nf3, nf4]
  refine st_mv (.int .i64 (N : Int)) ?_
  simp only [nf0, nf1, nf2, nf3, nf4]
  refine wpList_nil ?_
  show Code.wp _ _ _ _ _
  refine wp_seq ?_
  refine wp_region_lit ?_
  refine st_mv (.int .i64 (N : Int)) ?_
  simp only [nf0, nf1, nf2, nf3, nf4]
  refine st_lit (n := N) (by rfl) (run_makeRow (k := .u8) (bytes := 1) (.tmp 15) rfl Try.underlying38 (by kernel_rfl) (N := N) rfl (by omega) (by omega) (by omega) (by omega) _) ?_
  intro g1 w2 B3 hb4 lo5
  simp only [nf0, nf1, nf2, nf3, nf4]
  replace lo5 := low_le bel lo5
  replace bel := bl_step bel hb4
  clear hb4
  refine st_mv (.slice (some ⟨g1, 0, none⟩) N N) ?_
  simp only [nf0, nf1, nf2, nf3, nf4]
  refine wpList_nil ?_
  show Code.wp _ _ _ _ _
  refine wp_seq ?_
  refine wp_seq ?_
  refine wp_region_lit ?_
  refine st_mv (.slice (some ⟨g1, 0, none⟩) N N) ?_
  simp only [nf0, nf1, nf2, nf3, nf4]
  refine st_value (v := (.int .i64 (N : Int))) (by rfl) (run_len (.tmp 17) rfl ⟨_, Try.underlying38⟩ rfl w2) ?_
  simp only [nf0, nf1, nf2, nf3, nf4]
  refine st_mv (.int .i64 0) ?_
  simp only [nf0, nf1, nf2, nf3, nf4]
  refine wpList_nil ?_
  show Code.wp _ _ _ _ _
  refine wp_block ?_
  refine wp_loop_left (fun n_ a_ wr_ => (fun J6 => ∃ (k : Nat), n_ = N - k ∧ a_ = ⟨#[.int .i64 (N : Int), J6 1, .bool false, .slice (some ⟨g1, 0, none⟩) N N, J6 4, J6 5, J6 6, J6 7, J6 8, J6 9, J6 10, J6 11, J6 12, J6 13, J6 14, J6 15, J6 16, .slice (some ⟨g1, 0, none⟩) N N, .int .i64 (N : Int), .int .i64 (k : Int), J6 20, J6 21, J6 22, J6 23, J6 24, J6 25, J6 26, J6 27, J6 28, J6 29, J6 30, J6 31, J6 32, J6 33, J6 34, J6 35, J6 36, J6 37, J6 38, J6 39, J6 40, J6 41, J6 42, J6 43, J6 44, J6 45, J6 46, J6 47, J6 48, J6 49, J6 50, J6 51, J6 52, J6 53, J6 54, J6 55, J6 56, J6 57, J6 58, J6 59, J6 60, J6 61, J6 62, J6 63, J6 64, J6 65, J6 66, J6 67, J6 68, J6 69, J6 70, J6 71, J6 72, J6 73, J6 74, J6 75, J6 76, J6 77, J6 78, J6 79, J6 80, J6 81, J6 82, J6 83, J6 84, J6 85, J6 86, J6 87, J6 88, J6 89, J6 90, J6 91, J6 92, J6 93, J6 94, J6 95, J6 96, J6 97, J6 98], []⟩ ∧ Blk wr_ g1 (irow .u8 (fillL 97 k (List.replicate N (0 : Int)))) 5 ∧ Below w.heap.size w wr_ ∧ (k ≤ N)) (jk a_)) (N - 0) ⟨0, rfl, rfl, (by rw [fillL_0]; exact B3), bel, (Nat.zero_le _)⟩ ?_
  clear B3
  clear bel
  intro n_ a_ w7 h_
  revert h_
  generalize jk a_ = J6
  rintro ⟨k, hms, rfl, B3, bel, hkk⟩
  have hfl : (fillL 97 k (List.replicate N (0 : Int))).length = N := by rw [fillL_len (by simp; omega)]; simp
  refine wp_seq ?_
  refine wp_region_lit ?_
  refine st_value (v := (.bool (decide ((k : Int) < (N : Int))))) (by rfl) (run_lss (.tmp 19) (.tmp 18) rfl rfl rfl w7) ?_
  simp only [nf0, nf1, nf2, nf3, nf4]
  refine wpList_nil ?_
  show Code.wp _ _ _ _ _
  refine wp_seq ?_
  cases hg8 : decide ((k : Int) < (N : Int))
  rotate_left
  · have hp83 := of_decide_eq_true hg8
    refine wp_cond_true rfl ?_
    refine wp_skip ?_
    show Code.wp _ _ _ _ _
    refine wp_seq ?_
    refine wp_block ?_
    refine wp_seq ?_
    refine wp_region_lit ?_
    refine st_mv (.int .i64 (k : Int)) ?_
    simp only [nf0, nf1, nf2, nf3, nf4]
    refine st_mv (.int .i64 (k : Int)) ?_
    simp only [nf0, nf1, nf2, nf3, nf4]
    refine wpList_nil ?_
    show Code.wp _ _ _ _ _
    refine wp_region_lit ?_
    refine st_mv (.slice (some ⟨g1, 0, none⟩) N N) ?_
    simp only [nf0, nf1, nf2, nf3, nf4]
    refine st_mv (.int .i64 (k : Int)) ?_
    simp only [nf0, nf1, nf2, nf3, nf4]
    refine st_value (v := (.pointer (some ⟨g1, k, none⟩))) (by rfl) (run_index1 (.tmp 22) (.tmp 23) rfl Try.underlying38 (by kernel_rfl) rfl rfl (by omega) (by omega) w7) ?_
    simp only [nf0, nf1, nf2, nf3, nf4]
    refine st_cell (v := (.int .u8 97)) (by rfl) (run_storeB (.tmp 24) (.const (.int .u8 97)) rfl m_one_5 B3 (irow_lt (by omega)) rfl rfl rfl rfl) B3 ?_
    intro w84 B86 hg85
    simp only [nf0, nf1, nf2, nf3, nf4]
    replace bel := bl_kept0 bel hg85 lo5
    clear hg85
    clear B3
    rw [irow_set] at B86
    refine wpList_nil ?_
    show Code.wp _ _ _ _ _
    refine wp_region_lit ?_
    refine st_value (v := (.int .i64 ((k : Int) + 1))) (by rfl) (run_add_in (.tmp 19) (.const (.int .i64 1)) rfl rfl rfl (by omega) w84) ?_
    simp only [nf0, nf1, nf2, nf3, nf4]
    refine st_mv (.int .i64 ((k : Int) + 1)) ?_
    simp only [nf0, nf1, nf2, nf3, nf4]
    refine wpList_nil ?_
    show ∃ m, m < _ ∧ _
    exact ⟨_, (by omega), (k + 1), rfl, rfl, (by have h_ := B86; rw [fillL_set (by rw [List.length_replicate]; omega)] at h_; exact h_), bel, (by omega)⟩
  have hp9 := of_decide_eq_false hg8
  refine wp_cond_false rfl ?_
  refine wp_exit ?_
  show Code.wp _ _ _ _ _
  refine wp_seq ?_
  have hkN : k = (List.replicate N (0 : Int)).length := by rw [List.length_replicate]; omega
  have B10 : Blk w7 g1 (irow .u8 ((List.replicate N (97 : UInt8)).map fun c => (c.toNat : Int))) 5 := by have h_ := B3; rw [hkN, fillL_end] at h_; rw [rep_map]; rw [List.length_replicate] at h_; exact h_
  clear B3
  refine wp_region_lit ?_
  refine st_mv (.slice (some ⟨g1, 0, none⟩) N N) ?_
  simp only [nf0, nf1, nf2, nf3, nf4]
  refine st_value (v := (.string (str (List.replicate N (97 : UInt8))))) (by rfl) (run_convI (xs := (List.replicate N (97 : UInt8))) (.tmp 27) rfl rfl (List.length_replicate ..) B10) ?_
  simp only [nf0, nf1, nf2, nf3, nf4]
  have hc14 := allAny_calls (l := (List.replicate N (97 : UInt8))) (by rw [List.length_replicate]; omega) w7
  rw [hL1.1] at hc14
  refine st_call (by rfl) (m_run_call_9_1 (.tmp 28) rfl rfl _) hc14 ?_
  rintro _ w15 ⟨v11, rfl, O12, hf16⟩
  simp only [nf0, nf1, nf2, nf3, nf4]
  have n17 := O12.offLow B10
  replace O12 := O12.lower bel.size
  replace B10 := B10.below hf16
  replace bel := bl_step bel hf16
  clear hf16
  refine st_mv (.tuple #[v11, .int .i64 2, .agg #[.int .i64 ((desP (List.replicate N (97 : UInt8))).1), .int .i64 ((desP (List.replicate N (97 : UInt8))).2.1), .int .i64 ((desP (List.replicate N (97 : UInt8))).2.2)]]) ?_
  simp only [nf0, nf1, nf2, nf3, nf4]
  refine st_mv v11 ?_
  simp only [nf0, nf1, nf2, nf3, nf4]
  refine st_mv (.int .i64 2) ?_
  simp only [nf0, nf1, nf2, nf3, nf4]
  refine st_mv (.agg #[.int .i64 ((desP (List.replicate N (97 : UInt8))).1), .int .i64 ((desP (List.replicate N (97 : UInt8))).2.1), .int .i64 ((desP (List.replicate N (97 : UInt8))).2.2)]) ?_
  simp only [nf0, nf1, nf2, nf3, nf4]
  refine st_new (cs := #[.int .i64 0, .int .i64 0, .int .i64 0]) (t := 26) (by rfl) (run_allocV rfl m_zero_26 _) ?_
  intro g18 w19 B20 hb21 lo22
  simp only [nf0, nf1, nf2, nf3, nf4]
  have n23 := B10.ne lo22
  have n24 := O12.off lo22
  replace lo22 := low_le bel lo22
  replace B10 := B10.below hb21
  replace O12 := O12.same hb21
  replace bel := bl_step bel hb21
  clear hb21
  refine st_mv v11 ?_
  simp only [nf0, nf1, nf2, nf3, nf4]
  refine st_mv (.int .i64 2) ?_
  simp only [nf0, nf1, nf2, nf3, nf4]
  refine st_row (by rfl) (run_storeW (.tmp 7) (.tmp 32) rfl (cs := #[.int .i64 ((desP (List.replicate N (97 : UInt8))).1), .int .i64 ((desP (List.replicate N (97 : UInt8))).2.1), .int .i64 ((desP (List.replicate N (97 : UInt8))).2.2)]) aggPl rfl rfl B20 rfl (by simp [Value.oneCell'])) B20 ?_
  intro w25 B27 hg26
  simp only [nf0, nf1, nf2, nf3, nf4]
  replace B10 := B10.kept hg26 n23
  replace O12 := O12.keptB hg26 n24
  replace bel := bl_kept0 bel hg26 lo22
  clear hg26
  clear B20
  refine wpList_nil ?_
  show Code.wp _ _ _ _ _
  refine wp_seq ?_
  refine wp_seq ?_
  cases hg28 : decide (32 < (N : Int))
  · have hp29 := of_decide_eq_false hg28
    exfalso
    omega
  have hp30 := of_decide_eq_true hg28
  cases hg31 : decide ((N : Int) ≤ 32)
  rotate_left
  · have hp82 := of_decide_eq_true hg31
    exfalso
    omega
  have hp32 := of_decide_eq_false hg31
  refine wp_region_lit ?_
  refine st_mv (.int .i64 (N : Int)) ?_
  simp only [nf0, nf1, nf2, nf3, nf4]
  refine st_value (v := (.bool true)) (by rfl) ((run_gtr (.tmp 33) (.const (.int .i64 32)) rfl rfl rfl w25).trans (by rw [hg28])) ?_
  simp only [nf0, nf1, nf2, nf3, nf4]
  refine st_mv (.bool true) ?_
  simp only [nf0, nf1, nf2, nf3, nf4]
  refine st_mv (.int .i64 2) ?_
  simp only [nf0, nf1, nf2, nf3, nf4]
  refine st_value (v := (.bool false)) (by rfl) (run_neq_int_t (.tmp 36) (.const (.int .i64 2)) rfl rfl rfl rfl w25) ?_
  simp only [nf0, nf1, nf2, nf3, nf4]
  refine st_mv (.bool false) ?_
  simp only [nf0, nf1, nf2, nf3, nf4]
  refine st_mv (.bool false) ?_
  simp only [nf0, nf1, nf2, nf3, nf4]
  refine st_mv (.int .i64 (N : Int)) ?_
  simp only [nf0, nf1, nf2, nf3, nf4]
  refine st_value (v := (.bool false)) (by rfl) ((run_leq (.tmp 40) (.const (.int .i64 32)) rfl rfl rfl w25).trans (by rw [hg31])) ?_
  simp only [nf0, nf1, nf2, nf3, nf4]
  refine st_mv (.bool false) ?_
  simp only [nf0, nf1, nf2, nf3, nf4]
  refine st_nob (j := 9) (t := 42) (c := false) rfl rfl rfl rfl rfl ?_
  simp only [nf0, nf1, nf2, nf3, nf4]
  refine st_nob (j := 9) (t := 42) (c := false) rfl rfl rfl rfl rfl ?_
  simp only [nf0, nf1, nf2, nf3, nf4]
  refine st_nob (j := 9) (t := 42) (c := false) rfl rfl rfl rfl rfl ?_
  simp only [nf0, nf1, nf2, nf3, nf4]
  refine st_nou (j := 12) (t := 45) rfl rfl rfl rfl ?_
  simp only [nf0, nf1, nf2, nf3, nf4]
  refine st_nou (j := 12) (t := 45) rfl rfl rfl rfl ?_
  simp only [nf0, nf1, nf2, nf3, nf4]
  refine st_nou (j := 12) (t := 45) rfl rfl rfl rfl ?_
  simp only [nf0, nf1, nf2, nf3, nf4]
  refine st_nob (j := 9) (t := 42) (c := false) rfl rfl rfl rfl rfl ?_
  simp only [nf0, nf1, nf2, nf3, nf4]
  refine st_mv (.bool false) ?_
  simp only [nf0, nf1, nf2, nf3, nf4]
  refine st_mv (.bool false) ?_
  simp only [nf0, nf1, nf2, nf3, nf4]
  refine st_mv (.bool false) ?_
  simp only [nf0, nf1, nf2, nf3, nf4]
  refine st_mv (.slice (some ⟨g1, 0, none⟩) N N) ?_
  simp only [nf0, nf1, nf2, nf3, nf4]
  refine st_value (v := (.string (str (List.replicate N (97 : UInt8))))) (by rfl) (run_convI (xs := (List.replicate N (97 : UInt8))) (.tmp 53) rfl rfl (List.length_replicate ..) B10) ?_
  simp only [nf0, nf1, nf2, nf3, nf4]
  refine st_call1 (v := (.bool false)) (by rfl) (m_run_call_14_1 (.tmp 54) rfl rfl _) (show Calls _ _ _ _ fun e w' => e = .returned (.bool false) ∧ Below w25.heap.size w25 w' from by have h_ := isName_calls (List.replicate N (97 : UInt8)) (by rw [List.length_replicate]; omega) w25; rw [lim_name hN1, decide_eq_false (by omega)] at h_; exact h_) ?_
  intro w33 hb34
  simp only [nf0, nf1, nf2, nf3, nf4]
  replace B10 := B10.below hb34
  replace O12 := O12.same hb34
  replace B27 := B27.below hb34
  replace bel := bl_step bel hb34
  clear hb34
  refine st_mv (.int .i64 (N : Int)) ?_
  simp only [nf0, nf1, nf2, nf3, nf4]
  refine st_value (v := (.bool false)) (by rfl) ((run_leq (.tmp 56) (.const (.int .i64 32)) rfl rfl rfl w33).trans (by rw [hg31])) ?_
  simp only [nf0, nf1, nf2, nf3, nf4]
  refine st_value (v := (.bool false)) (by rfl) (runm_neq_bool (.tmp 55) (.tmp 57) rfl Try.underlying4 (b := false) (c := false) rfl rfl w33) ?_
  simp only [nf0, nf1, nf2, nf3, nf4]
  refine st_mv (.bool false) ?_
  simp only [nf0, nf1, nf2, nf3, nf4]
  refine wpList_nil ?_
  show Code.wp _ _ _ _ _
  refine wp_cond_false rfl ?_
  refine wp_skip ?_
  show Code.wp _ _ _ _ _
  refine wp_seq ?_
  refine wp_seq ?_
  refine wp_region_lit ?_
  refine st_mv (.slice (some ⟨g1, 0, none⟩) N N) ?_
  simp only [nf0, nf1, nf2, nf3, nf4]
  refine st_value (v := (.int .i64 (N : Int))) (by rfl) (run_len (.tmp 60) rfl ⟨_, Try.underlying38⟩ rfl w33) ?_
  simp only [nf0, nf1, nf2, nf3, nf4]
  refine st_mv (.int .i64 0) ?_
  simp only [nf0, nf1, nf2, nf3, nf4]
  refine wpList_nil ?_
  show Code.wp _ _ _ _ _
  refine wp_block ?_
  refine wp_loop_left (fun n_ a_ wr_ => (fun J35 => ∃ (q : Nat), n_ = N - q ∧ a_ = ⟨#[.int .i64 (N : Int), J35 1, .bool false, .slice (some ⟨g1, 0, none⟩) N N, J35 4, v11, .int .i64 2, .pointer (some ⟨g18, 0, none⟩), J35 8, J35 9, J35 10, J35 11, J35 12, J35 13, J35 14, J35 15, J35 16, J35 17, J35 18, J35 19, J35 20, J35 21, J35 22, J35 23, J35 24, J35 25, J35 26, J35 27, J35 28, J35 29, J35 30, J35 31, J35 32, J35 33, J35 34, J35 35, J35 36, J35 37, J35 38, J35 39, J35 40, J35 41, J35 42, J35 43, J35 44, J35 45, J35 46, J35 47, J35 48, J35 49, J35 50, J35 51, J35 52, J35 53, J35 54, J35 55, J35 56, J35 57, J35 58, J35 59, .slice (some ⟨g1, 0, none⟩) N N, .int .i64 (N : Int), .int .i64 (q : Int), J35 63, J35 64, J35 65, J35 66, J35 67, J35 68, J35 69, J35 70, J35 71, J35 72, J35 73, J35 74, J35 75, J35 76, J35 77, J35 78, J35 79, J35 80, J35 81, J35 82, J35 83, J35 84, J35 85, J35 86, J35 87, J35 88, J35 89, J35 90, J35 91, J35 92, J35 93, J35 94, J35 95, J35 96, J35 97, J35 98], []⟩ ∧ Blk wr_ g1 (irow .u8 (fillL 59 q ((List.replicate N (97 : UInt8)).map fun c => (c.toNat : Int)))) 5 ∧ OwnR wr_ w.heap.size 33 eTok v11 (desR (List.replicate N (97 : UInt8))) ∧ Blk wr_ g18 #[.int .i64 ((desP (List.replicate N (97 : UInt8))).1), .int .i64 ((desP (List.replicate N (97 : UInt8))).2.1), .int .i64 ((desP (List.replicate N (97 : UInt8))).2.2)] 26 ∧ Off v11 g1 ∧ Off v11 g18 ∧ Below w.heap.size w wr_ ∧ (q ≤ N)) (jk a_)) (N - 0) ⟨0, rfl, rfl, (by rw [fillL_0]; exact B10), O12, B27, n17, n24, bel, (Nat.zero_le _)⟩ ?_
  clear B10
  clear O12
  clear B27
  clear n17 n24
  clear bel
  intro n_ a_ w38 h_
  revert h_
  generalize jk a_ = J35
  rintro ⟨q, hms, rfl, B10, O12, B27, n36, n37, bel, hkq⟩
  have hfl : (fillL 59 q ((List.replicate N (97 : UInt8)).map fun c => (c.toNat : Int))).length = N := by rw [fillL_len (by simp; omega)]; simp
  refine wp_seq ?_
  refine wp_region_lit ?_
  refine st_value (v := (.bool (decide ((q : Int) < (N : Int))))) (by rfl) (run_lss (.tmp 62) (.tmp 61) rfl rfl rfl w38) ?_
  simp only [nf0, nf1, nf2, nf3, nf4]
  refine wpList_nil ?_
  show Code.wp _ _ _ _ _
  refine wp_seq ?_
  cases hg39 : decide ((q : Int) < (N : Int))
  rotate_left
  · have hp78 := of_decide_eq_true hg39
    refine wp_cond_true rfl ?_
    refine wp_skip ?_
    show Code.wp _ _ _ _ _
    refine wp_seq ?_
    refine wp_block ?_
    refine wp_seq ?_
    refine wp_region_lit ?_
    refine st_mv (.int .i64 (q : Int)) ?_
    simp only [nf0, nf1, nf2, nf3, nf4]
    refine st_mv (.int .i64 (q : Int)) ?_
    simp only [nf0, nf1, nf2, nf3, nf4]
    refine wpList_nil ?_
    show Code.wp _ _ _ _ _
    refine wp_region_lit ?_
    refine st_mv (.slice (some ⟨g1, 0, none⟩) N N) ?_
    simp only [nf0, nf1, nf2, nf3, nf4]
    refine st_mv (.int .i64 (q : Int)) ?_
    simp only [nf0, nf1, nf2, nf3, nf4]
    refine st_value (v := (.pointer (some ⟨g1, q, none⟩))) (by rfl) (run_index1 (.tmp 65) (.tmp 66) rfl Try.underlying38 (by kernel_rfl) rfl rfl (by omega) (by omega) w38) ?_
    simp only [nf0, nf1, nf2, nf3, nf4]
    refine st_cell (v := (.int .u8 59)) (by rfl) (run_storeB (.tmp 67) (.const (.int .u8 59)) rfl m_one_5 B10 (irow_lt (by omega)) rfl rfl rfl rfl) B10 ?_
    intro w79 B81 hg80
    simp only [nf0, nf1, nf2, nf3, nf4]
    replace O12 := O12.keptB hg80 n36
    replace B27 := B27.kept hg80 n23.symm
    replace bel := bl_kept0 bel hg80 lo5
    clear hg80
    clear B10
    rw [irow_set] at B81
    refine wpList_nil ?_
    show Code.wp _ _ _ _ _
    refine wp_region_lit ?_
    refine st_value (v := (.int .i64 ((q : Int) + 1))) (by rfl) (run_add_in (.tmp 62) (.const (.int .i64 1)) rfl rfl rfl (by omega) w79) ?_
    simp only [nf0, nf1, nf2, nf3, nf4]
    refine st_mv (.int .i64 ((q : Int) + 1)) ?_
    simp only [nf0, nf1, nf2, nf3, nf4]
    refine wpList_nil ?_
    show ∃ m, m < _ ∧ _
    exact ⟨_, (by omega), (q + 1), rfl, rfl, (by have h_ := B81; rw [fillL_set (by rw [List.length_map, List.length_replicate]; omega)] at h_; exact h_), O12, B27, n36, n37, bel, (by omega)⟩
  have hp40 := of_decide_eq_false hg39
  refine wp_cond_false rfl ?_
  refine wp_exit ?_
  show Code.wp _ _ _ _ _
  refine wp_seq ?_
  have hqN : q = ((List.replicate N (97 : UInt8)).map fun c => (c.toNat : Int)).length := by rw [List.length_map, List.length_replicate]; omega
  have B41 : Blk w38 g1 (irow .u8 ((List.replicate N (59 : UInt8)).map fun c => (c.toNat : Int))) 5 := by have h_ := B10; rw [hqN, fillL_end] at h_; rw [rep_map]; rw [List.length_map, List.length_replicate] at h_; exact h_
  clear B10
  refine wp_region_lit ?_
  refine st_mv (.slice (some ⟨g1, 0, none⟩) N N) ?_
  simp only [nf0, nf1, nf2, nf3, nf4]
  refine st_value (v := (.string (str (List.replicate N (59 : UInt8))))) (by rfl) (run_convI (xs := (List.replicate N (59 : UInt8))) (.tmp 70) rfl rfl (List.length_replicate ..) B41) ?_
  simp only [nf0, nf1, nf2, nf3, nf4]
  have hc45 := allAny_calls (l := (List.replicate N (59 : UInt8))) (by rw [List.length_replicate]; omega) w38
  rw [hL2.1] at hc45
  refine st_call (by rfl) (m_run_call_9_1 (.tmp 71) rfl rfl _) hc45 ?_
  rintro _ w46 ⟨v42, rfl, O43, hf47⟩
  simp only [nf0, nf1, nf2, nf3, nf4]
  have n48 := O43.offLow B41
  have n49 := O43.offLow2 O12
  have n50 := O43.offLow B27
  replace O43 := O43.lower bel.size
  replace B41 := B41.below hf47
  replace O12 := O12.same hf47
  replace B27 := B27.below hf47
  replace bel := bl_step bel hf47
  clear hf47
  refine st_mv (.tuple #[v42, .int .i64 0, .agg #[.int .i64 ((desP (List.replicate N (59 : UInt8))).1), .int .i64 ((desP (List.replicate N (59 : UInt8))).2.1), .int .i64 ((desP (List.replicate N (59 : UInt8))).2.2)]]) ?_
  simp only [nf0, nf1, nf2, nf3, nf4]
  refine st_mv v42 ?_
  simp only [nf0, nf1, nf2, nf3, nf4]
  refine st_mv (.int .i64 0) ?_
  simp only [nf0, nf1, nf2, nf3, nf4]
  refine st_mv (.agg #[.int .i64 ((desP (List.replicate N (59 : UInt8))).1), .int .i64 ((desP (List.replicate N (59 : UInt8))).2.1), .int .i64 ((desP (List.replicate N (59 : UInt8))).2.2)]) ?_
  simp only [nf0, nf1, nf2, nf3, nf4]
  refine st_new (cs := #[.int .i64 0, .int .i64 0, .int .i64 0]) (t := 26) (by rfl) (run_allocV rfl m_zero_26 _) ?_
  intro g51 w52 B53 hb54 lo55
  simp only [nf0, nf1, nf2, nf3, nf4]
  have n56 := B41.ne lo55
  have n57 := O12.off lo55
  have n58 := B27.ne lo55
  have n59 := O43.off lo55
  replace lo55 := low_le bel lo55
  replace B41 := B41.below hb54
  replace O12 := O12.same hb54
  replace B27 := B27.below hb54
  replace O43 := O43.same hb54
  replace bel := bl_step bel hb54
  clear hb54
  refine st_mv v42 ?_
  simp only [nf0, nf1, nf2, nf3, nf4]
  refine st_mv (.int .i64 0) ?_
  simp only [nf0, nf1, nf2, nf3, nf4]
  refine st_row (by rfl) (run_storeW (.tmp 11) (.tmp 75) rfl (cs := #[.int .i64 ((desP (List.replicate N (59 : UInt8))).1), .int .i64 ((desP (List.replicate N (59 : UInt8))).2.1), .int .i64 ((desP (List.replicate N (59 : UInt8))).2.2)]) aggPl rfl rfl B53 rfl (by simp [Value.oneCell'])) B53 ?_
  intro w60 B62 hg61
  simp only [nf0, nf1, nf2, nf3, nf4]
  replace B41 := B41.kept hg61 n56
  replace O12 := O12.keptB hg61 n57
  replace B27 := B27.kept hg61 n58
  replace O43 := O43.keptB hg61 n59
  replace bel := bl_kept0 bel hg61 lo55
  clear hg61
  clear B53
  refine wpList_nil ?_
  show Code.wp _ _ _ _ _
  refine wp_seq ?_
  cases hg63 : decide (65536 < (N : Int))
  rotate_left
  · have hp77 := of_decide_eq_true hg63
    exfalso
    omega
  have hp64 := of_decide_eq_false hg63
  cases hg65 : decide ((N : Int) ≤ 65536)
  · have hp66 := of_decide_eq_false hg65
    exfalso
    omega
  have hp67 := of_decide_eq_true hg65
  refine wp_region_lit ?_
  refine st_mv (.int .i64 (N : Int)) ?_
  simp only [nf0, nf1, nf2, nf3, nf4]
  refine st_value (v := (.bool false)) (by rfl) ((run_gtr (.tmp 76) (.const (.int .i64 65536)) rfl rfl rfl w60).trans (by rw [hg63])) ?_
  simp only [nf0, nf1, nf2, nf3, nf4]
  refine st_mv (.bool false) ?_
  simp only [nf0, nf1, nf2, nf3, nf4]
  refine st_nob (j := 2) (t := 78) (c := false) rfl rfl rfl rfl rfl ?_
  simp only [nf0, nf1, nf2, nf3, nf4]
  refine st_nob (j := 2) (t := 78) (c := false) rfl rfl rfl rfl rfl ?_
  simp only [nf0, nf1, nf2, nf3, nf4]
  refine st_mv (.bool false) ?_
  simp only [nf0, nf1, nf2, nf3, nf4]
  refine st_mv (.bool false) ?_
  simp only [nf0, nf1, nf2, nf3, nf4]
  refine st_mv (.int .i64 (N : Int)) ?_
  simp only [nf0, nf1, nf2, nf3, nf4]
  refine st_value (v := (.bool true)) (by rfl) ((run_leq (.tmp 83) (.const (.int .i64 65536)) rfl rfl rfl w60).trans (by rw [hg65])) ?_
  simp only [nf0, nf1, nf2, nf3, nf4]
  refine st_mv (.bool true) ?_
  simp only [nf0, nf1, nf2, nf3, nf4]
  refine st_mv (.int .i64 0) ?_
  simp only [nf0, nf1, nf2, nf3, nf4]
  refine st_value (v := (.bool true)) (by rfl) (run_eql_int_t (.tmp 86) (.const (.int .i64 0)) rfl rfl rfl rfl w60) ?_
  simp only [nf0, nf1, nf2, nf3, nf4]
  refine st_mv (.bool true) ?_
  simp only [nf0, nf1, nf2, nf3, nf4]
  refine st_mv (.bool true) ?_
  simp only [nf0, nf1, nf2, nf3, nf4]
  refine st_mv v42 ?_
  simp only [nf0, nf1, nf2, nf3, nf4]
  obtain ⟨A68, c69, hv70, h71, h72, h73, R74⟩ := O43.reads
  refine st_value (v := (.int .i64 ((desR (List.replicate N (59 : UInt8))).length : Int))) (by rfl) (run_len (.tmp 90) rfl ⟨_, Try.underlying23⟩ (by exact hv70) w60) ?_
  simp only [nf0, nf1, nf2, nf3, nf4]
  refine st_mv (.int .i64 (N : Int)) ?_
  simp only [nf0, nf1, nf2, nf3, nf4]
  refine st_value (v := (.bool true)) (by rfl) (run_eql_int_t (.tmp 91) (.tmp 92) rfl rfl rfl (by omega) w60) ?_
  simp only [nf0, nf1, nf2, nf3, nf4]
  refine st_mv (.bool true) ?_
  simp only [nf0, nf1, nf2, nf3, nf4]
  refine st_mv (.bool true) ?_
  simp only [nf0, nf1, nf2, nf3, nf4]
  refine st_mv (.bool true) ?_
  simp only [nf0, nf1, nf2, nf3, nf4]
  refine st_call1 (v := (.bool true)) (by rfl) (m_run_call_13_0  rfl  _) (descLives_calls w60) ?_
  intro w75 hb76
  simp only [nf0, nf1, nf2, nf3, nf4]
  replace B41 := B41.below hb76
  replace O12 := O12.same hb76
  replace B27 := B27.below hb76
  replace O43 := O43.same hb76
  replace B62 := B62.below hb76
  replace bel := bl_step bel hb76
  clear hb76
  refine st_mv (.bool true) ?_
  simp only [nf0, nf1, nf2, nf3, nf4]
  refine st_mv (.bool true) ?_
  simp only [nf0, nf1, nf2, nf3, nf4]
  refine wpList_nil ?_
  show Code.wp _ _ _ _ _
  refine wp_ret ?_
  first | show bodyPost _ _ _ _ _ _ | (simp only [Exit.then, Exit.inBlock]; show bodyPost _ _ _ _ _ _)
  exact bodyPost_ret (results_tmp rfl _ _ _) rfl ⟨rfl, bel⟩
set_option maxRecDepth 100000 in
set_option maxHeartbeats 4000000 in
theorem limits_C {n0 : Int} {N : Nat} (hN : max 1 (min n0 65538) = (N : Int)) (hN1 : 1 ≤ N) (hw : 65536 < N ∧ N ≤ 65538) (w : World) : Calls Try.prog 6 #[.int .i64 n0] w fun e w' => e = .returned (.bool true) ∧ Below w.heap.size w w' := by
  have bel : Below w.heap.size w w := Below.refl _ _
  have hL1 := lim1 hN1 (by omega)
  have hL2 := lim2 (N := N)
  rw [if_neg (by omega)] at hL1
  rw [if_neg (by omega)] at hL2
  go_enter Try.func6, Try.ntmps6
  refine wp_seq ?_
  refine wp_region_lit ?_
  refine st_mv (.bool false) ?_
  simp only [nf0, nf1, nf2, nf3, nf4]
  refine wpList_nil ?_
  show Code.wp _ _ _ _ _
  refine wp_seq ?_
  refine wp_region_lit ?_
  refine st_mv (.int .i64 n0) ?_
  simp only [nf0, nf1, nf2, nf3, nf4]
  refine st_value (v := (.int .i64 (min n0 65538))) (by rfl) (run_min2 (.tmp 12) (.const (.int .i64 65538)) rfl rfl rfl w) ?_
  simp only [nf0, nf1, nf2, nf3, nf4]
  refine st_value (v := (.int .i64 (N : Int))) (by rfl) ((run_max2 (.const (.int .i64 1)) (.tmp 13) rfl rfl rfl w).trans (by rw [hN])) ?_
  simp only [nf0, nf1, nf2, nf3, nf4]
  refine st_mv (.int .i64 (N : Int)) ?_
  simp only [nf0, nf1, nf2, nf3, nf4]
  refine wpList_nil ?_
  show Code.wp _ _ _ _ _
  refine wp_seq ?_
  refine wp_region_lit ?_
  refine st_mv (.int .i64 (N : Int)) ?_
  simp only [nf0, nf1, nf2, nf3, nf4]
  refine st_lit (n := N) (by rfl) (run_makeRow (k := .u8) (bytes := 1) (.tmp 15) rfl Try.underlying38 (by kernel_rfl) (N := N) rfl (by omega) (by omega) (by omega) (by omega) _) ?_
  intro g1 w2 B3 hb4 lo5
  simp only [nf0, nf1, nf2, nf3, nf4]
  replace lo5 := low_le bel lo5
  replace bel := bl_step bel hb4
  clear hb4
  refine st_mv (.slice (some ⟨g1, 0, none⟩) N N) ?_
  simp only [nf0, nf1, nf2, nf3, nf4]
  refine wpList_nil ?_
  show Code.wp _ _ _ _ _
  refine wp_seq ?_
  refine wp_seq ?_
  refine wp_region_lit ?_
  refine st_mv (.slice (some ⟨g1, 0, none⟩) N N) ?_
  simp only [nf0, nf1, nf2, nf3, nf4]
  refine st_value (v := (.int .i64 (N : Int))) (by rfl) (run_len (.tmp 17) rfl ⟨_, Try.underlying38⟩ rfl w2) ?_
  simp only [nf0, nf1, nf2, nf3, nf4]
  refine st_mv (.int .i64 0) ?_
  simp only [nf0, nf1, nf2, nf3, nf4]
  refine wpList_nil ?_
  show Code.wp _ _ _ _ _
  refine wp_block ?_
  refine wp_loop_left (fun n_ a_ wr_ => (fun J6 => ∃ (k : Nat), n_ = N - k ∧ a_ = ⟨#[.int .i64 (N : Int), J6 1, .bool false, .slice (some ⟨g1, 0, none⟩) N N, J6 4, J6 5, J6 6, J6 7, J6 8, J6 9, J6 10, J6 11, J6 12, J6 13, J6 14, J6 15, J6 16, .slice (some ⟨g1, 0, none⟩) N N, .int .i64 (N : Int), .int .i64 (k : Int), J6 20, J6 21, J6 22, J6 23, J6 24, J6 25, J6 26, J6 27, J6 28, J6 29, J6 30, J6 31, J6 32, J6 33, J6 34, J6 35, J6 36, J6 37, J6 38, J6 39, J6 40, J6 41, J6 42, J6 43, J6 44, J6 45, J6 46, J6 47, J6 48, J6 49, J6 50, J6 51, J6 52, J6 53, J6 54, J6 55, J6 56, J6 57, J6 58, J6 59, J6 60, J6 61, J6 62, J6 63, J6 64, J6 65, J6 66, J6 67, J6 68, J6 69, J6 70, J6 71, J6 72, J6 73, J6 74, J6 75, J6 76, J6 77, J6 78, J6 79, J6 80, J6 81, J6 82, J6 83, J6 84, J6 85, J6 86, J6 87, J6 88, J6 89, J6 90, J6 91, J6 92, J6 93, J6 94, J6 95, J6 96, J6 97, J6 98], []⟩ ∧ Blk wr_ g1 (irow .u8 (fillL 97 k (List.replicate N (0 : Int)))) 5 ∧ Below w.heap.size w wr_ ∧ (k ≤ N)) (jk a_)) (N - 0) ⟨0, rfl, rfl, (by rw [fillL_0]; exact B3), bel, (Nat.zero_le _)⟩ ?_
  clear B3
  clear bel
  intro n_ a_ w7 h_
  revert h_
  generalize jk a_ = J6
  rintro ⟨k, hms, rfl, B3, bel, hkk⟩
  have hfl : (fillL 97 k (List.replicate N (0 : Int))).length = N := by rw [fillL_len (by simp; omega)]; simp
  refine wp_seq ?_
  refine wp_region_lit ?_
  refine st_value (v := (.bool (decide ((k : Int) < (N : Int))))) (by rfl) (run_lss (.tmp 19) (.tmp 18) rfl rfl rfl w7) ?_
  simp only [nf0, nf1, nf2, nf3, nf4]
  refine wpList_nil ?_
  show Code.wp _ _ _ _ _
  refine wp_seq ?_
  cases hg8 : decide ((k : Int) < (N : Int))
  rotate_left
  · have hp73 := of_decide_eq_true hg8
    refine wp_cond_true rfl ?_
    refine wp_skip ?_
    show Code.wp _ _ _ _ _
    refine wp_seq ?_
    refine wp_block ?_
    refine wp_seq ?_
    refine wp_region_lit ?_
    refine st_mv (.int .i64 (k : Int)) ?_
    simp only [nf0, nf1, nf2, nf3, nf4]
    refine st_mv (.int .i64 (k : Int)) ?_
    simp only [nf0, nf1, nf2, nf3, nf4]
    refine wpList_nil ?_
    show Code.wp _ _ _ _ _
    refine wp_region_lit ?_
    refine st_mv (.slice (some ⟨g1, 0, none⟩) N N) ?_
    simp only [nf0, nf1, nf2, nf3, nf4]
    refine st_mv (.int .i64 (k : Int)) ?_
    simp only [nf0, nf1, nf2, nf3, nf4]
    refine st_value (v := (.pointer (some ⟨g1, k, none⟩))) (by rfl) (run_index1 (.tmp 22) (.tmp 23) rfl Try.underlying38 (by kernel_rfl) rfl rfl (by omega) (by omega) w7) ?_
    simp only [nf0, nf1, nf2, nf3, nf4]
    refine st_cell (v := (.int .u8 97)) (by rfl) (run_storeB (.tmp 24) (.const (.int .u8 97)) rfl m_one_5 B3 (irow_lt (by omega)) rfl rfl rfl rfl) B3 ?_
    intro w74 B76 hg75
    simp only [nf0, nf1, nf2, nf3, nf4]
    replace bel := bl_kept0 bel hg75 lo5
    clear hg75
    clear B3
    rw [irow_set] at B76
    refine wpList_nil ?_
    show Code.wp _ _ _ _ _
    refine wp_region_lit ?_
    refine st_value (v := (.int .i64 ((k : Int) + 1))) (by rfl) (run_add_in (.tmp 19) (.const (.int .i64 1)) rfl rfl rfl (by omega) w74) ?_
    simp only [nf0, nf1, nf2, nf3, nf4]
    refine st_mv (.int .i64 ((k : Int) + 1)) ?_
    simp only [nf0, nf1, nf2, nf3, nf4]
    refine wpList_nil ?_
    show ∃ m, m < _ ∧ _
    exact ⟨_, (by omega), (k + 1), rfl, rfl, (by have h_ := B76; rw [fillL_set (by rw [List.length_replicate]; omega)] at h_; exact h_), bel, (by omega)⟩
  have hp9 := of_decide_eq_false hg8
  refine wp_cond_false rfl ?_
  refine wp_exit ?_
  show Code.wp _ _ _ _ _
  refine wp_seq ?_
  have hkN : k = (List.replicate N (0 : Int)).length := by rw [List.length_replicate]; omega
  have B10 : Blk w7 g1 (irow .u8 ((List.replicate N (97 : UInt8)).map fun c => (c.toNat : Int))) 5 := by have h_ := B3; rw [hkN, fillL_end] at h_; rw [rep_map]; rw [List.length_replicate] at h_; exact h_
  clear B3
  refine wp_region_lit ?_
  refine st_mv (.slice (some ⟨g1, 0, none⟩) N N) ?_
  simp only [nf0, nf1, nf2, nf3, nf4]
  refine st_value (v := (.string (str (List.replicate N (97 : UInt8))))) (by rfl) (run_convI (xs := (List.replicate N (97 : UInt8))) (.tmp 27) rfl rfl (List.length_replicate ..) B10) ?_
  simp only [nf0, nf1, nf2, nf3, nf4]
  have hc14 := allAny_calls (l := (List.replicate N (97 : UInt8))) (by rw [List.length_replicate]; omega) w7
  rw [hL1.1] at hc14
  refine st_call (by rfl) (m_run_call_9_1 (.tmp 28) rfl rfl _) hc14 ?_
  rintro _ w15 ⟨v11, rfl, O12, hf16⟩
  simp only [nf0, nf1, nf2, nf3, nf4]
  have n17 := O12.offLow B10
  replace O12 := O12.lower bel.size
  replace B10 := B10.below hf16
  replace bel := bl_step bel hf16
  clear hf16
  refine st_mv (.tuple #[v11, .int .i64 2, .agg #[.int .i64 ((desP (List.replicate N (97 : UInt8))).1), .int .i64 ((desP (List.replicate N (97 : UInt8))).2.1), .int .i64 ((desP (List.replicate N (97 : UInt8))).2.2)]]) ?_
  simp only [nf0, nf1, nf2, nf3, nf4]
  refine st_mv v11 ?_
  simp only [nf0, nf1, nf2, nf3, nf4]
  refine st_mv (.int .i64 2) ?_
  simp only [nf0, nf1, nf2, nf3, nf4]
  refine st_mv (.agg #[.int .i64 ((desP (List.replicate N (97 : UInt8))).1), .int .i64 ((desP (List.replicate N (97 : UInt8))).2.1), .int .i64 ((desP (List.replicate N (97 : UInt8))).2.2)]) ?_
  simp only [nf0, nf1, nf2, nf3, nf4]
  refine st_new (cs := #[.int .i64 0, .int .i64 0, .int .i64 0]) (t := 26) (by rfl) (run_allocV rfl m_zero_26 _) ?_
  intro g18 w19 B20 hb21 lo22
  simp only [nf0, nf1, nf2, nf3, nf4]
  have n23 := B10.ne lo22
  have n24 := O12.off lo22
  replace lo22 := low_le bel lo22
  replace B10 := B10.below hb21
  replace O12 := O12.same hb21
  replace bel := bl_step bel hb21
  clear hb21
  refine st_mv v11 ?_
  simp only [nf0, nf1, nf2, nf3, nf4]
  refine st_mv (.int .i64 2) ?_
  simp only [nf0, nf1, nf2, nf3, nf4]
  refine st_row (by rfl) (run_storeW (.tmp 7) (.tmp 32) rfl (cs := #[.int .i64 ((desP (List.replicate N (97 : UInt8))).1), .int .i64 ((desP (List.replicate N (97 : UInt8))).2.1), .int .i64 ((desP (List.replicate N (97 : UInt8))).2.2)]) aggPl rfl rfl B20 rfl (by simp [Value.oneCell'])) B20 ?_
  intro w25 B27 hg26
  simp only [nf0, nf1, nf2, nf3, nf4]
  replace B10 := B10.kept hg26 n23
  replace O12 := O12.keptB hg26 n24
  replace bel := bl_kept0 bel hg26 lo22
  clear hg26
  clear B20
  refine wpList_nil ?_
  show Code.wp _ _ _ _ _
  refine wp_seq ?_
  refine wp_seq ?_
  cases hg28 : decide (32 < (N : Int))
  · have hp29 := of_decide_eq_false hg28
    exfalso
    omega
  have hp30 := of_decide_eq_true hg28
  cases hg31 : decide ((N : Int) ≤ 32)
  rotate_left
  · have hp72 := of_decide_eq_true hg31
    exfalso
    omega
  have hp32 := of_decide_eq_false hg31
  refine wp_region_lit ?_
  refine st_mv (.int .i64 (N : Int)) ?_
  simp only [nf0, nf1, nf2, nf3, nf4]
  refine st_value (v := (.bool true)) (by rfl) ((run_gtr (.tmp 33) (.const (.int .i64 32)) rfl rfl rfl w25).trans (by rw [hg28])) ?_
  simp only [nf0, nf1, nf2, nf3, nf4]
  refine st_mv (.bool true) ?_
  simp only [nf0, nf1, nf2, nf3, nf4]
  refine st_mv (.int .i64 2) ?_
  simp only [nf0, nf1, nf2, nf3, nf4]
  refine st_value (v := (.bool false)) (by rfl) (run_neq_int_t (.tmp 36) (.const (.int .i64 2)) rfl rfl rfl rfl w25) ?_
  simp only [nf0, nf1, nf2, nf3, nf4]
  refine st_mv (.bool false) ?_
  simp only [nf0, nf1, nf2, nf3, nf4]
  refine st_mv (.bool false) ?_
  simp only [nf0, nf1, nf2, nf3, nf4]
  refine st_mv (.int .i64 (N : Int)) ?_
  simp only [nf0, nf1, nf2, nf3, nf4]
  refine st_value (v := (.bool false)) (by rfl) ((run_leq (.tmp 40) (.const (.int .i64 32)) rfl rfl rfl w25).trans (by rw [hg31])) ?_
  simp only [nf0, nf1, nf2, nf3, nf4]
  refine st_mv (.bool false) ?_
  simp only [nf0, nf1, nf2, nf3, nf4]
  refine st_nob (j := 9) (t := 42) (c := false) rfl rfl rfl rfl rfl ?_
  simp only [nf0, nf1, nf2, nf3, nf4]
  refine st_nob (j := 9) (t := 42) (c := false) rfl rfl rfl rfl rfl ?_
  simp only [nf0, nf1, nf2, nf3, nf4]
  refine st_nob (j := 9) (t := 42) (c := false) rfl rfl rfl rfl rfl ?_
  simp only [nf0, nf1, nf2, nf3, nf4]
  refine st_nou (j := 12) (t := 45) rfl rfl rfl rfl ?_
  simp only [nf0, nf1, nf2, nf3, nf4]
  refine st_nou (j := 12) (t := 45) rfl rfl rfl rfl ?_
  simp only [nf0, nf1, nf2, nf3, nf4]
  refine st_nou (j := 12) (t := 45) rfl rfl rfl rfl ?_
  simp only [nf0, nf1, nf2, nf3, nf4]
  refine st_nob (j := 9) (t := 42) (c := false) rfl rfl rfl rfl rfl ?_
  simp only [nf0, nf1, nf2, nf3, nf4]
  refine st_mv (.bool false) ?_
  simp only [nf0, nf1, nf2, nf3, nf4]
  refine st_mv (.bool false) ?_
  simp only [nf0, nf1, nf2, nf3, nf4]
  refine st_mv (.bool false) ?_
  simp only [nf0, nf1, nf2, nf3, nf4]
  refine st_mv (.slice (some ⟨g1, 0, none⟩) N N) ?_
  simp only [nf0, nf1, nf2, nf3, nf4]
  refine st_value (v := (.string (str (List.replicate N (97 : UInt8))))) (by rfl) (run_convI (xs := (List.replicate N (97 : UInt8))) (.tmp 53) rfl rfl (List.length_replicate ..) B10) ?_
  simp only [nf0, nf1, nf2, nf3, nf4]
  refine st_call1 (v := (.bool false)) (by rfl) (m_run_call_14_1 (.tmp 54) rfl rfl _) (show Calls _ _ _ _ fun e w' => e = .returned (.bool false) ∧ Below w25.heap.size w25 w' from by have h_ := isName_calls (List.replicate N (97 : UInt8)) (by rw [List.length_replicate]; omega) w25; rw [lim_name hN1, decide_eq_false (by omega)] at h_; exact h_) ?_
  intro w33 hb34
  simp only [nf0, nf1, nf2, nf3, nf4]
  replace B10 := B10.below hb34
  replace O12 := O12.same hb34
  replace B27 := B27.below hb34
  replace bel := bl_step bel hb34
  clear hb34
  refine st_mv (.int .i64 (N : Int)) ?_
  simp only [nf0, nf1, nf2, nf3, nf4]
  refine st_value (v := (.bool false)) (by rfl) ((run_leq (.tmp 56) (.const (.int .i64 32)) rfl rfl rfl w33).trans (by rw [hg31])) ?_
  simp only [nf0, nf1, nf2, nf3, nf4]
  refine st_value (v := (.bool false)) (by rfl) (runm_neq_bool (.tmp 55) (.tmp 57) rfl Try.underlying4 (b := false) (c := false) rfl rfl w33) ?_
  simp only [nf0, nf1, nf2, nf3, nf4]
  refine st_mv (.bool false) ?_
  simp only [nf0, nf1, nf2, nf3, nf4]
  refine wpList_nil ?_
  show Code.wp _ _ _ _ _
  refine wp_cond_false rfl ?_
  refine wp_skip ?_
  show Code.wp _ _ _ _ _
  refine wp_seq ?_
  refine wp_seq ?_
  refine wp_region_lit ?_
  refine st_mv (.slice (some ⟨g1, 0, none⟩) N N) ?_
  simp only [nf0, nf1, nf2, nf3, nf4]
  refine st_value (v := (.int .i64 (N : Int))) (by rfl) (run_len (.tmp 60) rfl ⟨_, Try.underlying38⟩ rfl w33) ?_
  simp only [nf0, nf1, nf2, nf3, nf4]
  refine st_mv (.int .i64 0) ?_
  simp only [nf0, nf1, nf2, nf3, nf4]
  refine wpList_nil ?_
  show Code.wp _ _ _ _ _
  refine wp_block ?_
  refine wp_loop_left (fun n_ a_ wr_ => (fun J35 => ∃ (q : Nat), n_ = N - q ∧ a_ = ⟨#[.int .i64 (N : Int), J35 1, .bool false, .slice (some ⟨g1, 0, none⟩) N N, J35 4, v11, .int .i64 2, .pointer (some ⟨g18, 0, none⟩), J35 8, J35 9, J35 10, J35 11, J35 12, J35 13, J35 14, J35 15, J35 16, J35 17, J35 18, J35 19, J35 20, J35 21, J35 22, J35 23, J35 24, J35 25, J35 26, J35 27, J35 28, J35 29, J35 30, J35 31, J35 32, J35 33, J35 34, J35 35, J35 36, J35 37, J35 38, J35 39, J35 40, J35 41, J35 42, J35 43, J35 44, J35 45, J35 46, J35 47, J35 48, J35 49, J35 50, J35 51, J35 52, J35 53, J35 54, J35 55, J35 56, J35 57, J35 58, J35 59, .slice (some ⟨g1, 0, none⟩) N N, .int .i64 (N : Int), .int .i64 (q : Int), J35 63, J35 64, J35 65, J35 66, J35 67, J35 68, J35 69, J35 70, J35 71, J35 72, J35 73, J35 74, J35 75, J35 76, J35 77, J35 78, J35 79, J35 80, J35 81, J35 82, J35 83, J35 84, J35 85, J35 86, J35 87, J35 88, J35 89, J35 90, J35 91, J35 92, J35 93, J35 94, J35 95, J35 96, J35 97, J35 98], []⟩ ∧ Blk wr_ g1 (irow .u8 (fillL 59 q ((List.replicate N (97 : UInt8)).map fun c => (c.toNat : Int)))) 5 ∧ OwnR wr_ w.heap.size 33 eTok v11 (desR (List.replicate N (97 : UInt8))) ∧ Blk wr_ g18 #[.int .i64 ((desP (List.replicate N (97 : UInt8))).1), .int .i64 ((desP (List.replicate N (97 : UInt8))).2.1), .int .i64 ((desP (List.replicate N (97 : UInt8))).2.2)] 26 ∧ Off v11 g1 ∧ Off v11 g18 ∧ Below w.heap.size w wr_ ∧ (q ≤ N)) (jk a_)) (N - 0) ⟨0, rfl, rfl, (by rw [fillL_0]; exact B10), O12, B27, n17, n24, bel, (Nat.zero_le _)⟩ ?_
  clear B10
  clear O12
  clear B27
  clear n17 n24
  clear bel
  intro n_ a_ w38 h_
  revert h_
  generalize jk a_ = J35
  rintro ⟨q, hms, rfl, B10, O12, B27, n36, n37, bel, hkq⟩
  have hfl : (fillL 59 q ((List.replicate N (97 : UInt8)).map fun c => (c.toNat : Int))).length = N := by rw [fillL_len (by simp; omega)]; simp
  refine wp_seq ?_
  refine wp_region_lit ?_
  refine st_value (v := (.bool (decide ((q : Int) < (N : Int))))) (by rfl) (run_lss (.tmp 62) (.tmp 61) rfl rfl rfl w38) ?_
  simp only [nf0, nf1, nf2, nf3, nf4]
  refine wpList_nil ?_
  show Code.wp _ _ _ _ _
  refine wp_seq ?_
  cases hg39 : decide ((q : Int) < (N : Int))
  rotate_left
  · have hp68 := of_decide_eq_true hg39
    refine wp_cond_true rfl ?_
    refine wp_skip ?_
    show Code.wp _ _ _ _ _
    refine wp_seq ?_
    refine wp_block ?_
    refine wp_seq ?_
    refine wp_region_lit ?_
    refine st_mv (.int .i64 (q : Int)) ?_
    simp only [nf0, nf1, nf2, nf3, nf4]
    refine st_mv (.int .i64 (q : Int)) ?_
    simp only [nf0, nf1, nf2, nf3, nf4]
    refine wpList_nil ?_
    show Code.wp _ _ _ _ _
    refine wp_region_lit ?_
    refine st_mv (.slice (some ⟨g1, 0, none⟩) N N) ?_
    simp only [nf0, nf1, nf2, nf3, nf4]
    refine st_mv (.int .i64 (q : Int)) ?_
    simp only [nf0, nf1, nf2, nf3, nf4]
    refine st_value (v := (.pointer (some ⟨g1, q, none⟩))) (by rfl) (run_index1 (.tmp 65) (.tmp 66) rfl Try.underlying38 (by kernel_rfl) rfl rfl (by omega) (by omega) w38) ?_
    simp only [nf0, nf1, nf2, nf3, nf4]
    refine st_cell (v := (.int .u8 59)) (by rfl) (run_storeB (.tmp 67) (.const (.int .u8 59)) rfl m_one_5 B10 (irow_lt (by omega)) rfl rfl rfl rfl) B10 ?_
    intro w69 B71 hg70
    simp only [nf0, nf1, nf2, nf3, nf4]
    replace O12 := O12.keptB hg70 n36
    replace B27 := B27.kept hg70 n23.symm
    replace bel := bl_kept0 bel hg70 lo5
    clear hg70
    clear B10
    rw [irow_set] at B71
    refine wpList_nil ?_
    show Code.wp _ _ _ _ _
    refine wp_region_lit ?_
    refine st_value (v := (.int .i64 ((q : Int) + 1))) (by rfl) (run_add_in (.tmp 62) (.const (.int .i64 1)) rfl rfl rfl (by omega) w69) ?_
    simp only [nf0, nf1, nf2, nf3, nf4]
    refine st_mv (.int .i64 ((q : Int) + 1)) ?_
    simp only [nf0, nf1, nf2, nf3, nf4]
    refine wpList_nil ?_
    show ∃ m, m < _ ∧ _
    exact ⟨_, (by omega), (q + 1), rfl, rfl, (by have h_ := B71; rw [fillL_set (by rw [List.length_map, List.length_replicate]; omega)] at h_; exact h_), O12, B27, n36, n37, bel, (by omega)⟩
  have hp40 := of_decide_eq_false hg39
  refine wp_cond_false rfl ?_
  refine wp_exit ?_
  show Code.wp _ _ _ _ _
  refine wp_seq ?_
  have hqN : q = ((List.replicate N (97 : UInt8)).map fun c => (c.toNat : Int)).length := by rw [List.length_map, List.length_replicate]; omega
  have B41 : Blk w38 g1 (irow .u8 ((List.replicate N (59 : UInt8)).map fun c => (c.toNat : Int))) 5 := by have h_ := B10; rw [hqN, fillL_end] at h_; rw [rep_map]; rw [List.length_map, List.length_replicate] at h_; exact h_
  clear B10
  refine wp_region_lit ?_
  refine st_mv (.slice (some ⟨g1, 0, none⟩) N N) ?_
  simp only [nf0, nf1, nf2, nf3, nf4]
  refine st_value (v := (.string (str (List.replicate N (59 : UInt8))))) (by rfl) (run_convI (xs := (List.replicate N (59 : UInt8))) (.tmp 70) rfl rfl (List.length_replicate ..) B41) ?_
  simp only [nf0, nf1, nf2, nf3, nf4]
  have hc45 := allAny_calls (l := (List.replicate N (59 : UInt8))) (by rw [List.length_replicate]; omega) w38
  rw [hL2.1] at hc45
  refine st_call (by rfl) (m_run_call_9_1 (.tmp 71) rfl rfl _) hc45 ?_
  rintro _ w46 ⟨v42, rfl, O43, hf47⟩
  simp only [nf0, nf1, nf2, nf3, nf4]
  have n48 := O43.offLow B41
  have n49 := O43.offLow2 O12
  have n50 := O43.offLow B27
  replace O43 := O43.lower bel.size
  replace B41 := B41.below hf47
  replace O12 := O12.same hf47
  replace B27 := B27.below hf47
  replace bel := bl_step bel hf47
  clear hf47
  refine st_mv (.tuple #[v42, .int .i64 2, .agg #[.int .i64 ((desP (List.replicate N (59 : UInt8))).1), .int .i64 ((desP (List.replicate N (59 : UInt8))).2.1), .int .i64 ((desP (List.replicate N (59 : UInt8))).2.2)]]) ?_
  simp only [nf0, nf1, nf2, nf3, nf4]
  refine st_mv v42 ?_
  simp only [nf0, nf1, nf2, nf3, nf4]
  refine st_mv (.int .i64 2) ?_
  simp only [nf0, nf1, nf2, nf3, nf4]
  refine st_mv (.agg #[.int .i64 ((desP (List.replicate N (59 : UInt8))).1), .int .i64 ((desP (List.replicate N (59 : UInt8))).2.1), .int .i64 ((desP (List.replicate N (59 : UInt8))).2.2)]) ?_
  simp only [nf0, nf1, nf2, nf3, nf4]
  refine st_new (cs := #[.int .i64 0, .int .i64 0, .int .i64 0]) (t := 26) (by rfl) (run_allocV rfl m_zero_26 _) ?_
  intro g51 w52 B53 hb54 lo55
  simp only [nf0, nf1, nf2, nf3, nf4]
  have n56 := B41.ne lo55
  have n57 := O12.off lo55
  have n58 := B27.ne lo55
  have n59 := O43.off lo55
  replace lo55 := low_le bel lo55
  replace B41 := B41.below hb54
  replace O12 := O12.same hb54
  replace B27 := B27.below hb54
  replace O43 := O43.same hb54
  replace bel := bl_step bel hb54
  clear hb54
  refine st_mv v42 ?_
  simp only [nf0, nf1, nf2, nf3, nf4]
  refine st_mv (.int .i64 2) ?_
  simp only [nf0, nf1, nf2, nf3, nf4]
  refine st_row (by rfl) (run_storeW (.tmp 11) (.tmp 75) rfl (cs := #[.int .i64 ((desP (List.replicate N (59 : UInt8))).1), .int .i64 ((desP (List.replicate N (59 : UInt8))).2.1), .int .i64 ((desP (List.replicate N (59 : UInt8))).2.2)]) aggPl rfl rfl B53 rfl (by simp [Value.oneCell'])) B53 ?_
  intro w60 B62 hg61
  simp only [nf0, nf1, nf2, nf3, nf4]
  replace B41 := B41.kept hg61 n56
  replace O12 := O12.keptB hg61 n57
  replace B27 := B27.kept hg61 n58
  replace O43 := O43.keptB hg61 n59
  replace bel := bl_kept0 bel hg61 lo55
  clear hg61
  clear B53
  refine wpList_nil ?_
  show Code.wp _ _ _ _ _
  refine wp_seq ?_
  cases hg63 : decide (65536 < (N : Int))
  · have hp64 := of_decide_eq_false hg63
    exfalso
    omega
  have hp65 := of_decide_eq_true hg63
  refine wp_region_lit ?_
  refine st_mv (.int .i64 (N : Int)) ?_
  simp only [nf0, nf1, nf2, nf3, nf4]
  refine st_value (v := (.bool true)) (by rfl) ((run_gtr (.tmp 76) (.const (.int .i64 65536)) rfl rfl rfl w60).trans (by rw [hg63])) ?_
  simp only [nf0, nf1, nf2, nf3, nf4]
  refine st_mv (.bool true) ?_
  simp only [nf0, nf1, nf2, nf3, nf4]
  refine st_mv (.int .i64 2) ?_
  simp only [nf0, nf1, nf2, nf3, nf4]
  refine st_value (v := (.bool true)) (by rfl) (run_eql_int_t (.tmp 79) (.const (.int .i64 2)) rfl rfl rfl rfl w60) ?_
  simp only [nf0, nf1, nf2, nf3, nf4]
  refine st_mv (.bool true) ?_
  simp only [nf0, nf1, nf2, nf3, nf4]
  refine st_mv (.bool true) ?_
  simp only [nf0, nf1, nf2, nf3, nf4]
  refine st_nob (j := 6) (t := 82) (c := true) rfl rfl rfl rfl rfl ?_
  simp only [nf0, nf1, nf2, nf3, nf4]
  refine st_nob (j := 6) (t := 82) (c := true) rfl rfl rfl rfl rfl ?_
  simp only [nf0, nf1, nf2, nf3, nf4]
  refine st_nob (j := 6) (t := 82) (c := true) rfl rfl rfl rfl rfl ?_
  simp only [nf0, nf1, nf2, nf3, nf4]
  refine st_nou (j := 9) (t := 85) rfl rfl rfl rfl ?_
  simp only [nf0, nf1, nf2, nf3, nf4]
  refine st_nou (j := 9) (t := 85) rfl rfl rfl rfl ?_
  simp only [nf0, nf1, nf2, nf3, nf4]
  refine st_nob (j := 6) (t := 82) (c := true) rfl rfl rfl rfl rfl ?_
  simp only [nf0, nf1, nf2, nf3, nf4]
  refine st_nob (j := 6) (t := 82) (c := true) rfl rfl rfl rfl rfl ?_
  simp only [nf0, nf1, nf2, nf3, nf4]
  refine st_nou (j := 13) (t := 89) rfl rfl rfl rfl ?_
  simp only [nf0, nf1, nf2, nf3, nf4]
  refine st_nou (j := 13) (t := 89) rfl rfl rfl rfl ?_
  simp only [nf0, nf1, nf2, nf3, nf4]
  refine st_nou (j := 13) (t := 89) rfl rfl rfl rfl ?_
  simp only [nf0, nf1, nf2, nf3, nf4]
  refine st_nou (j := 13) (t := 89) rfl rfl rfl rfl ?_
  simp only [nf0, nf1, nf2, nf3, nf4]
  refine st_nob (j := 6) (t := 82) (c := true) rfl rfl rfl rfl rfl ?_
  simp only [nf0, nf1, nf2, nf3, nf4]
  refine st_mv (.bool true) ?_
  simp only [nf0, nf1, nf2, nf3, nf4]
  refine st_mv (.bool true) ?_
  simp only [nf0, nf1, nf2, nf3, nf4]
  refine st_call1 (v := (.bool true)) (by rfl) (m_run_call_13_0  rfl  _) (descLives_calls w60) ?_
  intro w66 hb67
  simp only [nf0, nf1, nf2, nf3, nf4]
  replace B41 := B41.below hb67
  replace O12 := O12.same hb67
  replace B27 := B27.below hb67
  replace O43 := O43.same hb67
  replace B62 := B62.below hb67
  replace bel := bl_step bel hb67
  clear hb67
  refine st_mv (.bool true) ?_
  simp only [nf0, nf1, nf2, nf3, nf4]
  refine st_mv (.bool true) ?_
  simp only [nf0, nf1, nf2, nf3, nf4]
  refine wpList_nil ?_
  show Code.wp _ _ _ _ _
  refine wp_ret ?_
  first | show bodyPost _ _ _ _ _ _ | (simp only [Exit.then, Exit.inBlock]; show bodyPost _ _ _ _ _ _)
  exact bodyPost_ret (results_tmp rfl _ _ _) rfl ⟨rfl, bel⟩
theorem descLimits_calls (n0 : Int) (w : World) : Calls Try.prog 6 #[.int .i64 n0] w fun e w' => e = .returned (.bool true) ∧ Below w.heap.size w w' := by
  obtain ⟨N, hN⟩ : ∃ N : Nat, max 1 (min n0 65538) = (N : Int) := ⟨(max 1 (min n0 65538)).toNat, by omega⟩
  have hN1 : 1 ≤ N := by omega
  by_cases h1 : N ≤ 32
  · exact limits_A hN hN1 h1 w
  · by_cases h2 : N ≤ 65536
    · exact limits_B hN hN1 ⟨by omega, h2⟩ w
    · exact limits_C hN hN1 ⟨by omega, by omega⟩ w
end Go.Proofs.Ytkebpmcgmmhifaa
