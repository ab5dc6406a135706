/- What the law RingGoes does. -/
import Derived.Test.YtdhhcjhinpmeeaaRingLast
namespace Go.Proofs.Ytdhhcjhinpmeeaa
open Go.RowKit Go.WideShapes Go.ChangeShapes
set_option linter.unusedSimpArgs false
set_option linter.unusedVariables false

theorem k_zero_4 : ZeroOf Try.prog 4 #[.bool false] := zeroOf (z := .bool false) (by kernel_rfl) rfl
theorem k_one_22 : One Try.prog 22 := one_of Try.underlying22 rfl (by kernel_rfl)
theorem k_zero_23 : ZeroOf Try.prog 23 #[.pointer none] := zeroOf (z := .pointer none) (by kernel_rfl) rfl
theorem k_one_23 : One Try.prog 23 := one_of Try.underlying23 rfl (by kernel_rfl)
theorem k_zero_3 : ZeroOf Try.prog 3 #[.int .i64 0] := zeroOf (z := .int .i64 0) (by kernel_rfl) rfl
theorem k_one_3 : One Try.prog 3 := one_of Try.underlying3 rfl (by kernel_rfl)
theorem k_one_4 : One Try.prog 4 := one_of Try.underlying4 rfl (by kernel_rfl)
theorem k_run_call_7_1 {o : Oper} {a : Act} (x0 : Operand) {ts : Array TypeId} (ho : o.op = .call { callee := .value (.func 7), args := #[x0], argTypes := ts }) {v0 : Value} (h0 : a.eval x0 = v0) (W : World) : (execOp a.eval o).run Try.prog W = .ok (.enter 7 #[v0]) W := by
  unfold execOp
  simp only [ho]
  subst h0
  go_simp
theorem k_run_call_8_1 {o : Oper} {a : Act} (x0 : Operand) {ts : Array TypeId} (ho : o.op = .call { callee := .value (.func 8), args := #[x0], argTypes := ts }) {v0 : Value} (h0 : a.eval x0 = v0) (W : World) : (execOp a.eval o).run Try.prog W = .ok (.enter 8 #[v0]) W := by
  unfold execOp
  simp only [ho]
  subst h0
  go_simp
theorem k_run_call_9_1 {o : Oper} {a : Act} (x0 : Operand) {ts : Array TypeId} (ho : o.op = .call { callee := .value (.func 9), args := #[x0], argTypes := ts }) {v0 : Value} (h0 : a.eval x0 = v0) (W : World) : (execOp a.eval o).run Try.prog W = .ok (.enter 9 #[v0]) W := by
  unfold execOp
  simp only [ho]
  subst h0
  go_simp
theorem k_run_call_10_2 {o : Oper} {a : Act} (x0 : Operand) (x1 : Operand) {ts : Array TypeId} (ho : o.op = .call { callee := .value (.func 10), args := #[x0, x1], argTypes := ts }) {v0 : Value} (h0 : a.eval x0 = v0) {v1 : Value} (h1 : a.eval x1 = v1) (W : World) : (execOp a.eval o).run Try.prog W = .ok (.enter 10 #[v0, v1]) W := by
  unfold execOp
  simp only [ho]
  subst h0 h1
  go_simp
theorem k_run_call_11_2 {o : Oper} {a : Act} (x0 : Operand) (x1 : Operand) {ts : Array TypeId} (ho : o.op = .call { callee := .value (.func 11), args := #[x0, x1], argTypes := ts }) {v0 : Value} (h0 : a.eval x0 = v0) {v1 : Value} (h1 : a.eval x1 = v1) (W : World) : (execOp a.eval o).run Try.prog W = .ok (.enter 11 #[v0, v1]) W := by
  unfold execOp
  simp only [ho]
  subst h0 h1
  go_simp
theorem k_run_call_12_0 {o : Oper} {a : Act}  {ts : Array TypeId} (ho : o.op = .call { callee := .value (.func 12), args := #[], argTypes := ts })  (W : World) : (execOp a.eval o).run Try.prog W = .ok (.enter 12 #[]) W := by
  unfold execOp
  simp only [ho]
  go_simp

attribute [local irreducible] Go.wpList Go.Code.wp Go.wpListIn Go.Code.wpIn
set_option maxRecDepth 100000 in
set_option maxHeartbeats 4000000 in
theorem ringGoes_calls (room : Int) (A : Option Addr) (xs : List Int) (cap : Nat) (hcap : xs.length ≤ cap) (w : World) (hr : Reads w A (xs.map (Value.int .i64))) :
    Calls Try.prog 3 #[.int .i64 room, .slice A xs.length cap] w fun e w' => e = .returned (.bool true) ∧ Below w.heap.size w w' := by
  have bel : Below w.heap.size w w := Below.refl _ _
  have hl1 := len_take200 xs
  refine calls_marks Try.func3 rfl ?_
  simp only [Try.ntmps3, List.size_toArray, List.length_cons, List.length_nil, Nat.reduceAdd, Nat.reduceSub, Array.replicate_succ, Array.replicate_zero, List.push_toArray, List.append_toArray, List.nil_append, List.cons_append]
  refine wp_seq ?_
  refine wp_region_lit ?_
  refine st_new (cs := #[.slice A xs.length cap]) (t := 22) (by rfl) (run_boxV (.tmp 1) rfl (v := (.slice A xs.length cap)) rfl rfl _) ?_
  intro g1 w2 B3 hb4 lo5
  simp only [nf0, nf1, nf2, nf3, nf4]
  replace lo5 := low_le bel lo5
  replace bel := bl_step bel hb4
  clear hb4
  refine st_new (cs := #[.bool false]) (t := 4) (by rfl) (run_allocV rfl k_zero_4 _) ?_
  intro g6 w7 B8 hb9 lo10
  simp only [nf0, nf1, nf2, nf3, nf4]
  have n11 := B3.ne lo10
  replace lo10 := low_le bel lo10
  replace B3 := B3.below hb9
  replace bel := bl_step bel hb9
  clear hb9
  refine wpList_nil ?_
  show Code.wp _ _ _ _ _
  refine wp_seq ?_
  refine wp_region_lit ?_
  refine st_value (v := (.slice A xs.length cap)) (by rfl) (run_loadB (.tmp 3) rfl k_one_22 rfl B3 rfl) ?_
  simp only [nf0, nf1, nf2, nf3, nf4]
  refine st_value (v := (.slice A xs.length cap)) (by rfl) (run_loadB (.tmp 3) rfl k_one_22 rfl B3 rfl) ?_
  simp only [nf0, nf1, nf2, nf3, nf4]
  refine st_value (v := (.int .i64 (xs.length : Int))) (by rfl) (run_len (.tmp 18) rfl ⟨_, Try.underlying22⟩ rfl w7) ?_
  simp only [nf0, nf1, nf2, nf3, nf4]
  refine st_value (v := (.int .i64 (min (xs.length : Int) 200))) (by rfl) (run_min2 (.tmp 19) (.const (.int .i64 200)) rfl rfl rfl w7) ?_
  simp only [nf0, nf1, nf2, nf3, nf4]
  have R12 := hr.takeI 200
  refine st_value (v := (.slice A (xs.take 200).length cap)) (by rfl) (run_cut_take (.tmp 17) (.tmp 20) rfl Try.underlying22 slInt'.sz rfl 200 rfl rfl hcap w7) ?_
  simp only [nf0, nf1, nf2, nf3, nf4]
  refine st_cell (v := (.slice A (xs.take 200).length cap)) (by rfl) (run_storeB (.tmp 3) (.tmp 21) rfl k_one_22 B3 (show 0 < 1 by decide) rfl rfl rfl rfl) B3 ?_
  intro w13 B15 hg14
  simp only [nf0, nf1, nf2, nf3, nf4]
  replace B8 := B8.kept hg14 n11.symm
  replace bel := bl_kept0 bel hg14 lo5
  clear hg14
  clear B3
  replace B15 : Blk w13 g1 #[.slice A (xs.take 200).length cap] 22 := B15
  refine wpList_nil ?_
  show Code.wp _ _ _ _ _
  refine wp_seq ?_
  have hrd := R12.same bel
  refine wp_region_lit ?_
  refine st_mv (.int .i64 room) ?_
  simp only [nf0, nf1, nf2, nf3, nf4]
  refine st_value (v := (.int .i64 (min room 20))) (by rfl) (run_min2 (.tmp 22) (.const (.int .i64 20)) rfl rfl rfl w13) ?_
  simp only [nf0, nf1, nf2, nf3, nf4]
  refine st_value (v := (.int .i64 (max 1 (min room 20)))) (by rfl) (run_max2 (.const (.int .i64 1)) (.tmp 23) rfl rfl rfl w13) ?_
  simp only [nf0, nf1, nf2, nf3, nf4]
  refine st_mv (.int .i64 (max 1 (min room 20))) ?_
  simp only [nf0, nf1, nf2, nf3, nf4]
  refine wpList_nil ?_
  show Code.wp _ _ _ _ _
  refine wp_seq ?_
  obtain ⟨N, hN⟩ : ∃ N : Nat, max 1 (min room 20) = (N : Int) := ⟨(max 1 (min room 20)).toNat, by omega⟩
  have hN1 : 1 ≤ N ∧ N ≤ 20 := by omega
  rw [hN]
  clear hN
  refine wp_region_lit ?_
  refine st_mv (.int .i64 (N : Int)) ?_
  simp only [nf0, nf1, nf2, nf3, nf4]
  refine st_call (by rfl) (k_run_call_7_1 (.tmp 25) rfl rfl _) (new_calls (X := (N : Int)) (N := N) (by omega) w13) ?_
  rintro _ w22 ⟨r16, b17, rfl, R18, lo19, lo20, hf23⟩
  simp only [nf0, nf1, nf2, nf3, nf4]
  have n24 := B15.ne lo19
  have n25 := B8.ne lo19
  have n26 := B15.ne lo20
  have n27 := B8.ne lo20
  replace lo19 := low_le bel lo19
  replace lo20 := low_le bel lo20
  replace B15 := B15.below hf23
  replace B8 := B8.below hf23
  replace hrd := hrd.same hf23
  replace bel := bl_step bel hf23
  clear hf23
  have ne21 : r16 ≠ b17 := Rg.nerb R18
  refine st_new (cs := #[.pointer none]) (t := 23) (by rfl) (run_allocV rfl k_zero_23 _) ?_
  intro g28 w29 B30 hb31 lo32
  simp only [nf0, nf1, nf2, nf3, nf4]
  have n33 := B15.ne lo32
  have n34 := B8.ne lo32
  have n35 : r16 ≠ g28 := Nat.ne_of_lt (Nat.lt_of_lt_of_le R18.ltr lo32)
  have n36 : b17 ≠ g28 := Nat.ne_of_lt (Nat.lt_of_lt_of_le R18.ltb lo32)
  replace lo32 := low_le bel lo32
  replace B15 := B15.below hb31
  replace B8 := B8.below hb31
  replace hrd := hrd.same hb31
  replace R18 := R18.below hb31
  replace bel := bl_step bel hb31
  clear hb31
  refine st_cell (v := (.pointer (some ⟨r16, 0, none⟩))) (by rfl) (run_storeB (.tmp 6) (.tmp 26) rfl k_one_23 B30 (show 0 < 1 by decide) rfl rfl rfl rfl) B30 ?_
  intro w37 B39 hg38
  simp only [nf0, nf1, nf2, nf3, nf4]
  replace B15 := B15.kept hg38 n33
  replace B8 := B8.kept hg38 n34
  replace R18 := R18.kept hg38 n35 n36
  replace bel := bl_kept0 bel hg38 lo32
  replace hrd := R12.same bel
  clear hg38
  clear B30
  replace B39 : Blk w37 g28 #[.pointer (some ⟨r16, 0, none⟩)] 23 := B39
  refine wpList_nil ?_
  show Code.wp _ _ _ _ _
  refine wp_seq ?_
  refine wp_seq ?_
  refine wp_region_lit ?_
  refine st_value (v := (.slice A (xs.take 200).length cap)) (by rfl) (run_loadB (.tmp 3) rfl k_one_22 rfl B15 rfl) ?_
  simp only [nf0, nf1, nf2, nf3, nf4]
  refine st_value (v := (.int .i64 ((xs.take 200).length : Int))) (by rfl) (run_len (.tmp 27) rfl ⟨_, Try.underlying22⟩ rfl w37) ?_
  simp only [nf0, nf1, nf2, nf3, nf4]
  refine st_mv (.int .i64 0) ?_
  simp only [nf0, nf1, nf2, nf3, nf4]
  refine wpList_nil ?_
  show Code.wp _ _ _ _ _
  refine wp_block ?_
  refine wp_loop_left (fun n_ a_ wr_ => (fun J40 => ∃ (k : Nat), n_ = (xs.take 200).length - k ∧ a_ = ⟨#[.int .i64 room, .slice A xs.length cap, J40 2, .pointer (some ⟨g1, 0, none⟩), .pointer (some ⟨g6, 0, none⟩), .int .i64 (N : Int), .pointer (some ⟨g28, 0, none⟩), J40 7, J40 8, J40 9, J40 10, J40 11, J40 12, J40 13, J40 14, J40 15, J40 16, J40 17, J40 18, J40 19, J40 20, J40 21, J40 22, J40 23, J40 24, J40 25, J40 26, .slice A (xs.take 200).length cap, .int .i64 ((xs.take 200).length : Int), .int .i64 (k : Int), J40 30, J40 31, J40 32, J40 33, J40 34, J40 35, J40 36, J40 37, J40 38, J40 39, J40 40, J40 41, J40 42, J40 43, J40 44, J40 45, J40 46, J40 47, J40 48, J40 49, J40 50, J40 51, J40 52, J40 53, J40 54, J40 55, J40 56, J40 57, J40 58, J40 59, J40 60, J40 61, J40 62, J40 63, J40 64, J40 65, J40 66, J40 67, J40 68, J40 69, J40 70, J40 71, J40 72, J40 73, J40 74, J40 75, J40 76, J40 77, J40 78, J40 79, J40 80, J40 81, J40 82, J40 83, J40 84, J40 85, J40 86, J40 87, J40 88, J40 89, J40 90, J40 91, J40 92, J40 93, J40 94, J40 95, J40 96, J40 97, J40 98, J40 99, J40 100, J40 101, J40 102, J40 103, J40 104, J40 105, J40 106, J40 107, J40 108, J40 109, J40 110, J40 111], []⟩ ∧ Blk wr_ g1 #[.slice A (xs.take 200).length cap] 22 ∧ Blk wr_ g6 #[.bool false] 4 ∧ Reads wr_ A ((xs.take 200).map (Value.int .i64)) ∧ Rg wr_ r16 b17 N (lst (xs.take 200) N k) ∧ Blk wr_ g28 #[.pointer (some ⟨r16, 0, none⟩)] 23 ∧ Below w.heap.size w wr_ ∧ (k ≤ (xs.take 200).length)) (jk a_)) ((xs.take 200).length - 0) ⟨0, rfl, rfl, B15, B8, hrd, (by rw [lst_zero]; exact R18), B39, bel, Nat.zero_le _⟩ ?_
  clear B15
  clear B8
  clear hrd
  clear R18
  clear B39
  clear bel
  intro n_ a_ w41 h_
  revert h_
  generalize jk a_ = J40
  rintro ⟨k, hms, rfl, B15, B8, hrd, R18, B39, bel, hk⟩
  have hlk := lst_len (l := (xs.take 200)) (N := N) hk
  refine wp_seq ?_
  refine wp_region_lit ?_
  refine st_value (v := (.bool (decide ((k : Int) < ((xs.take 200).length : Int))))) (by rfl) (run_lss (.tmp 29) (.tmp 28) rfl rfl rfl w41) ?_
  simp only [nf0, nf1, nf2, nf3, nf4]
  refine wpList_nil ?_
  show Code.wp _ _ _ _ _
  refine wp_seq ?_
  cases hg42 : decide ((k : Int) < ((xs.take 200).length : Int))
  rotate_left
  · have hp106 := of_decide_eq_true hg42
    refine wp_cond_true rfl ?_
    refine wp_skip ?_
    show Code.wp _ _ _ _ _
    refine wp_seq ?_
    refine wp_block ?_
    refine wp_seq ?_
    obtain ⟨b107, o108, rfl, _⟩ := hrd.at_ (by simp only [List.length_map]; omega)
    refine wp_region_lit ?_
    refine st_mv (.int .i64 (k : Int)) ?_
    simp only [nf0, nf1, nf2, nf3, nf4]
    refine st_value (v := (.pointer (some ⟨b107, o108 + k * 1, none⟩))) (by rfl) (run_indexAddrN (.tmp 27) (.tmp 29) rfl Try.underlying22 slInt'.sz (i := k) rfl rfl (by omega) w41) ?_
    simp only [nf0, nf1, nf2, nf3, nf4]
    refine st_value (v := (.int .i64 (nth (xs.take 200) k))) (by rfl) (run_load1 (.tmp 32) rfl Try.underlying3 rfl slInt'.sz rfl (Reads.intAt hrd k (by omega))) ?_
    simp only [nf0, nf1, nf2, nf3, nf4]
    refine st_mv (.int .i64 (k : Int)) ?_
    simp only [nf0, nf1, nf2, nf3, nf4]
    refine st_mv (.int .i64 (nth (xs.take 200) k)) ?_
    simp only [nf0, nf1, nf2, nf3, nf4]
    refine wpList_nil ?_
    show Code.wp _ _ _ _ _
    refine wp_seq ?_
    refine wp_seq ?_
    refine wp_region_lit ?_
    refine st_value (v := (.pointer (some ⟨r16, 0, none⟩))) (by rfl) (run_loadB (.tmp 6) rfl k_one_23 rfl B39 rfl) ?_
    simp only [nf0, nf1, nf2, nf3, nf4]
    refine st_call1 (v := (.int .i64 (((lst (xs.take 200) N k).length : Nat) : Int))) (by rfl) (k_run_call_8_1 (.tmp 34) rfl rfl _) (len_rg R18) ?_
    intro w109 hb110
    simp only [nf0, nf1, nf2, nf3, nf4]
    replace B15 := B15.below hb110
    replace B8 := B8.below hb110
    replace hrd := hrd.same hb110
    replace R18 := R18.below hb110
    replace B39 := B39.below hb110
    replace bel := bl_step bel hb110
    clear hb110
    refine st_mv (.int .i64 (N : Int)) ?_
    simp only [nf0, nf1, nf2, nf3, nf4]
    refine st_value (v := (.bool (decide ((((lst (xs.take 200) N k).length : Nat) : Int) = (N : Int))))) (by rfl) (run_eql_int (.tmp 35) (.tmp 36) rfl rfl rfl w109) ?_
    simp only [nf0, nf1, nf2, nf3, nf4]
    refine wpList_nil ?_
    show Code.wp _ _ _ _ _
    cases hg111 : decide ((((lst (xs.take 200) N k).length : Nat) : Int) = (N : Int))
    · have hp112 := of_decide_eq_false hg111
      refine wp_cond_false rfl ?_
      refine wp_skip ?_
      show Code.wp _ _ _ _ _
      refine wp_seq ?_
      refine wp_region_lit ?_
      refine st_value (v := (.pointer (some ⟨r16, 0, none⟩))) (by rfl) (run_loadB (.tmp 6) rfl k_one_23 rfl B39 rfl) ?_
      simp only [nf0, nf1, nf2, nf3, nf4]
      refine st_mv (.int .i64 (nth (xs.take 200) k)) ?_
      simp only [nf0, nf1, nf2, nf3, nf4]
      refine st_call (by rfl) (k_run_call_10_2 (.tmp 55) (.tmp 56) rfl rfl rfl _) (back_yes R18 (by omega) (nth (xs.take 200) k)) ?_
      rintro _ w114 ⟨rfl, R113, hf115⟩
      simp only [nf0, nf1, nf2, nf3, nf4]
      replace B15 := B15.fr hf115 (ni2 n24 n26)
      replace B8 := B8.fr hf115 (ni2 n25 n27)
      replace B39 := B39.fr hf115 (ni2 n35.symm n36.symm)
      replace bel := bl_call bel hf115 (lo2 lo19 lo20)
      replace hrd := R12.same bel
      clear hf115
      clear R18
      refine st_value (v := (.bool false)) (by rfl) (run_not (.tmp 57) rfl (b := true) rfl w114) ?_
      simp only [nf0, nf1, nf2, nf3, nf4]
      refine wpList_nil ?_
      show Code.wp _ _ _ _ _
      refine wp_cond_false rfl ?_
      refine wp_skip ?_
      show Code.wp _ _ _ _ _
      refine wp_region_lit ?_
      refine st_value (v := (.int .i64 ((k : Int) + 1))) (by rfl) (run_add_in (.tmp 29) (.const (.int .i64 1)) rfl rfl rfl (by omega) w114) ?_
      simp only [nf0, nf1, nf2, nf3, nf4]
      refine st_mv (.int .i64 ((k : Int) + 1)) ?_
      simp only [nf0, nf1, nf2, nf3, nf4]
      refine wpList_nil ?_
      show ∃ m, m < _ ∧ _
      exact ⟨_, (by omega), (k + 1), rfl, rfl, B15, B8, hrd, (by have h := R113; rw [lst_low (by omega) (by omega)] at h; exact h), B39, bel, (by omega)⟩
    have hp116 := of_decide_eq_true hg111
    refine wp_cond_true rfl ?_
    refine wp_seq ?_
    refine wp_region_lit ?_
    refine st_value (v := (.pointer (some ⟨r16, 0, none⟩))) (by rfl) (run_loadB (.tmp 6) rfl k_one_23 rfl B39 rfl) ?_
    simp only [nf0, nf1, nf2, nf3, nf4]
    refine st_call (by rfl) (k_run_call_9_1 (.tmp 39) rfl rfl _) (first_yes R18 (by omega)) ?_
    rintro _ w118 ⟨rfl, R117, hf119⟩
    simp only [nf0, nf1, nf2, nf3, nf4]
    replace B15 := B15.fr hf119 (ni2 n24 n26)
    replace B8 := B8.fr hf119 (ni2 n25 n27)
    replace B39 := B39.fr hf119 (ni2 n35.symm n36.symm)
    replace bel := bl_call bel hf119 (lo2 lo19 lo20)
    replace hrd := R12.same bel
    clear hf119
    clear R18
    refine st_mv (.tuple #[.int .i64 (nth (lst (xs.take 200) N k) 0), .bool true]) ?_
    simp only [nf0, nf1, nf2, nf3, nf4]
    refine st_mv (.int .i64 (nth (lst (xs.take 200) N k) 0)) ?_
    simp only [nf0, nf1, nf2, nf3, nf4]
    refine st_mv (.bool true) ?_
    simp only [nf0, nf1, nf2, nf3, nf4]
    refine st_mv (.int .i64 (nth (lst (xs.take 200) N k) 0)) ?_
    simp only [nf0, nf1, nf2, nf3, nf4]
    refine st_mv (.bool true) ?_
    simp only [nf0, nf1, nf2, nf3, nf4]
    refine wpList_nil ?_
    show Code.wp _ _ _ _ _
    refine wp_seq ?_
    have hlf := nth_lst (l := (xs.take 200)) (N := N) (j := 0) hk (by omega)
    rw [Nat.add_zero] at hlf
    refine wp_region_lit ?_
    refine st_mv (.bool true) ?_
    simp only [nf0, nf1, nf2, nf3, nf4]
    refine st_value (v := (.bool false)) (by rfl) (run_not (.tmp 43) rfl (b := true) rfl w118) ?_
    simp only [nf0, nf1, nf2, nf3, nf4]
    refine st_mv (.bool false) ?_
    simp only [nf0, nf1, nf2, nf3, nf4]
    refine st_mv (.int .i64 (nth (lst (xs.take 200) N k) 0)) ?_
    simp only [nf0, nf1, nf2, nf3, nf4]
    refine st_value (v := (.slice (some ⟨b107, o108, none⟩) (xs.take 200).length cap)) (by rfl) (run_loadB (.tmp 3) rfl k_one_22 rfl B15 rfl) ?_
    simp only [nf0, nf1, nf2, nf3, nf4]
    refine st_mv (.int .i64 (k : Int)) ?_
    simp only [nf0, nf1, nf2, nf3, nf4]
    refine st_mv (.int .i64 (N : Int)) ?_
    simp only [nf0, nf1, nf2, nf3, nf4]
    refine st_value (v := (.int .i64 ((k : Int) - (N : Int)))) (by rfl) (run_sub_in (.tmp 48) (.tmp 49) rfl rfl rfl (by omega) w118) ?_
    simp only [nf0, nf1, nf2, nf3, nf4]
    refine st_value (v := (.pointer (some ⟨b107, o108 + (k - N) * 1, none⟩))) (by rfl) (run_indexAddrN (.tmp 47) (.tmp 50) rfl Try.underlying22 slInt'.sz (i := (k - N)) rfl (by exact (congrArg (Value.int .i64) (show ((k : Int) - (N : Int)) = ((k - N : Nat) : Int) by omega))) (by omega) w118) ?_
    simp only [nf0, nf1, nf2, nf3, nf4]
    refine st_value (v := (.int .i64 (nth (xs.take 200) (k - N)))) (by rfl) (run_load1 (.tmp 51) rfl Try.underlying3 rfl slInt'.sz rfl (Reads.intAt hrd (k - N) (by omega))) ?_
    simp only [nf0, nf1, nf2, nf3, nf4]
    refine st_value (v := (.bool false)) (by rfl) (run_neq_int_t (.tmp 46) (.tmp 52) rfl rfl rfl hlf w118) ?_
    simp only [nf0, nf1, nf2, nf3, nf4]
    refine st_mv (.bool false) ?_
    simp only [nf0, nf1, nf2, nf3, nf4]
    refine wpList_nil ?_
    show Code.wp _ _ _ _ _
    refine wp_cond_false rfl ?_
    refine wp_skip ?_
    show Code.wp _ _ _ _ _
    refine wp_seq ?_
    have hwl : (wo (lst (xs.take 200) N k) 0).length = N - 1 := by rw [wo_length (by omega)]; omega
    refine wp_region_lit ?_
    refine st_value (v := (.pointer (some ⟨r16, 0, none⟩))) (by rfl) (run_loadB (.tmp 6) rfl k_one_23 rfl B39 rfl) ?_
    simp only [nf0, nf1, nf2, nf3, nf4]
    refine st_mv (.int .i64 (nth (xs.take 200) k)) ?_
    simp only [nf0, nf1, nf2, nf3, nf4]
    refine st_call (by rfl) (k_run_call_10_2 (.tmp 55) (.tmp 56) rfl rfl rfl _) (back_yes R117 (by omega) (nth (xs.take 200) k)) ?_
    rintro _ w121 ⟨rfl, R120, hf122⟩
    simp only [nf0, nf1, nf2, nf3, nf4]
    replace B15 := B15.fr hf122 (ni2 n24 n26)
    replace B8 := B8.fr hf122 (ni2 n25 n27)
    replace B39 := B39.fr hf122 (ni2 n35.symm n36.symm)
    replace bel := bl_call bel hf122 (lo2 lo19 lo20)
    replace hrd := R12.same bel
    clear hf122
    clear R117
    refine st_value (v := (.bool false)) (by rfl) (run_not (.tmp 57) rfl (b := true) rfl w121) ?_
    simp only [nf0, nf1, nf2, nf3, nf4]
    refine wpList_nil ?_
    show Code.wp _ _ _ _ _
    refine wp_cond_false rfl ?_
    refine wp_skip ?_
    show Code.wp _ _ _ _ _
    refine wp_region_lit ?_
    refine st_value (v := (.int .i64 ((k : Int) + 1))) (by rfl) (run_add_in (.tmp 29) (.const (.int .i64 1)) rfl rfl rfl (by omega) w121) ?_
    simp only [nf0, nf1, nf2, nf3, nf4]
    refine st_mv (.int .i64 ((k : Int) + 1)) ?_
    simp only [nf0, nf1, nf2, nf3, nf4]
    refine wpList_nil ?_
    show ∃ m, m < _ ∧ _
    exact ⟨_, (by omega), (k + 1), rfl, rfl, B15, B8, hrd, (by have h := R120; rw [lst_full (by omega) (by omega) (by omega)] at h; exact h), B39, bel, (by omega)⟩
  have hp43 := of_decide_eq_false hg42
  refine wp_cond_false rfl ?_
  refine wp_exit ?_
  show Code.wp _ _ _ _ _
  refine wp_seq ?_
  have hkk : k = (xs.take 200).length := by omega
  obtain ⟨q, hq⟩ : ∃ q, k - N = q := ⟨_, rfl⟩
  have hz : q + (lst (xs.take 200) N k).length = (xs.take 200).length := by have := lst_len (l := (xs.take 200)) (N := N) hk; omega
  have hnl0 : ∀ j, j < (lst (xs.take 200) N k).length → nth (lst (xs.take 200) N k) j = nth (xs.take 200) (q + j) := fun j hj => by rw [← hq]; exact nth_lst hk (by have := lst_len (l := (xs.take 200)) (N := N) hk; omega)
  clear hq
  refine wp_region_lit ?_
  refine st_value (v := (.pointer (some ⟨r16, 0, none⟩))) (by rfl) (run_loadB (.tmp 6) rfl k_one_23 rfl B39 rfl) ?_
  simp only [nf0, nf1, nf2, nf3, nf4]
  refine st_call (by rfl) (k_run_call_11_2 (.tmp 60) (.const (.int .i64 0)) rfl rfl rfl _) (each_calls (some ⟨r16, 0, none⟩) 0 w41) ?_
  rintro _ w51 ⟨B1_44, B2_45, rfl, F46, F47, lo48, lo49, n50, hf52⟩
  simp only [nf0, nf1, nf2, nf3, nf4]
  have n53 := B15.ne lo48
  have n54 := B8.ne lo48
  have n55 : r16 ≠ B1_44 := Nat.ne_of_lt (Nat.lt_of_lt_of_le R18.ltr lo48)
  have n56 : b17 ≠ B1_44 := Nat.ne_of_lt (Nat.lt_of_lt_of_le R18.ltb lo48)
  have n57 := B39.ne lo48
  have n58 := B15.ne lo49
  have n59 := B8.ne lo49
  have n60 : r16 ≠ B2_45 := Nat.ne_of_lt (Nat.lt_of_lt_of_le R18.ltr lo49)
  have n61 : b17 ≠ B2_45 := Nat.ne_of_lt (Nat.lt_of_lt_of_le R18.ltb lo49)
  have n62 := B39.ne lo49
  replace lo48 := low_le bel lo48
  replace lo49 := low_le bel lo49
  replace B15 := B15.below hf52
  replace B8 := B8.below hf52
  replace hrd := hrd.same hf52
  replace R18 := R18.below hf52
  replace B39 := B39.below hf52
  replace bel := bl_step bel hf52
  clear hf52
  refine st_mv (.func (.func 24) #[] #[.pointer (some ⟨B1_44, 0, none⟩), .pointer (some ⟨B2_45, 0, none⟩)]) ?_
  simp only [nf0, nf1, nf2, nf3, nf4]
  refine wpList_nil ?_
  show Code.wp _ _ _ _ _
  refine wp_seq ?_
  refine wp_seq ?_
  refine wp_region_lit ?_
  refine st_mv (.func (.func 24) #[] #[.pointer (some ⟨B1_44, 0, none⟩), .pointer (some ⟨B2_45, 0, none⟩)]) ?_
  simp only [nf0, nf1, nf2, nf3, nf4]
  refine st_value (v := (.bool false)) (by rfl) (run_eqnilF (.tmp 62) (.const .nilFunc) rfl Try.underlying30 rfl rfl w51) ?_
  simp only [nf0, nf1, nf2, nf3, nf4]
  refine wpList_nil ?_
  show Code.wp _ _ _ _ _
  refine wp_cond_false rfl ?_
  refine wp_skip ?_
  show Code.wp _ _ _ _ _
  refine wp_seq ?_
  refine wp_region_facts2_lit (C := Abv w51) 6 [.val (.slice A (xs.take 200).length cap), .val (.int .i64 ((xs.take 200).length : Int)), .val (.pointer (some ⟨r16, 0, none⟩)), .val (.int .i64 (((lst (xs.take 200) N k).length : Nat) : Int)), .val (.int .i64 (((xs.take 200).length : Int) - (((lst (xs.take 200) N k).length : Nat) : Int))), .new #[.int .i64 0] 3] w51.heap.size (by kernel_rfl) (by simp) (by kernel_rfl) (by kernel_rfl) (fun _ h => h.size) (Abv.start _) ?_
  simp only [List.take_succ_cons, List.take_zero, List.drop_succ_cons, List.drop_zero]
  refine fst2_val (fun W hC _ => ok2_value (v := (.slice A (xs.take 200).length cap)) (by rfl) (run_loadB (.tmp 3) rfl k_one_22 rfl (B15.below hC) rfl) rfl hC (G0.refl _)) ?_
  simp only [nf0, nf1, nf2, nf3, nf4]
  refine fst2_val (fun W hC _ => ok2_value (v := (.int .i64 ((xs.take 200).length : Int))) (by rfl) (run_len (.tmp 64) rfl ⟨_, Try.underlying22⟩ rfl W) rfl hC (G0.refl _)) ?_
  simp only [nf0, nf1, nf2, nf3, nf4]
  refine fst2_val (fun W hC _ => ok2_value (v := (.pointer (some ⟨r16, 0, none⟩))) (by rfl) (run_loadB (.tmp 6) rfl k_one_23 rfl (B39.below hC) rfl) rfl hC (G0.refl _)) ?_
  simp only [nf0, nf1, nf2, nf3, nf4]
  refine fst2_val (fun W hC _ => ok2_call (by rfl) (k_run_call_8_1 (.tmp 66) rfl rfl W) ((len_rg (R18.below hC)).mono fun e W' ⟨h1, h2⟩ => ⟨h1, hC.step h2, h2⟩)) ?_
  simp only [nf0, nf1, nf2, nf3, nf4]
  refine fst2_val (fun W hC _ => ok2_value (v := (.int .i64 (((xs.take 200).length : Int) - (((lst (xs.take 200) N k).length : Nat) : Int)))) (by rfl) (run_sub_in (.tmp 65) (.tmp 67) rfl rfl rfl (by omega) W) rfl hC (G0.refl _)) ?_
  simp only [nf0, nf1, nf2, nf3, nf4]
  refine fst2_new (fun W hC hh => ok2_new (by rfl) (run_allocV rfl k_zero_3 W) (hC.step (bl_alloc (Below.refl _ _) _))) fun g63 lo64 => ?_
  simp only [nf0, nf1, nf2, nf3, nf4]
  refine fst2_nil fun w66 hC hh hnd => ?_
  replace hC : Below w51.heap.size w51 w66 := hC
  have B65 : Blk w66 g63 #[.int .i64 0] 3 := (List.forall_mem_cons.1 hh).1
  replace hh := (List.forall_mem_cons.1 hh).2
  have n67 := B15.ne lo64
  have n68 := B8.ne lo64
  have n69 : r16 ≠ g63 := Nat.ne_of_lt (Nat.lt_of_lt_of_le R18.ltr lo64)
  have n70 : b17 ≠ g63 := Nat.ne_of_lt (Nat.lt_of_lt_of_le R18.ltb lo64)
  have n71 := B39.ne lo64
  have n72 := F46.ne lo64
  have n73 := F47.ne lo64
  replace lo64 := low_le bel lo64
  clear hh hnd
  replace B15 := B15.below hC
  replace B8 := B8.below hC
  replace hrd := hrd.same hC
  replace R18 := R18.below hC
  replace B39 := B39.below hC
  replace F46 := F46.below hC
  replace F47 := F47.below hC
  replace bel := bl_step bel hC
  clear hC
  refine st_cell (v := (.int .i64 (((xs.take 200).length : Int) - (((lst (xs.take 200) N k).length : Nat) : Int)))) (by rfl) (run_storeB (.tmp 12) (.tmp 68) rfl k_one_3 B65 (show 0 < 1 by decide) rfl rfl rfl rfl) B65 ?_
  intro w74 B76 hg75
  simp only [nf0, nf1, nf2, nf3, nf4]
  replace B15 := B15.kept hg75 n67
  replace B8 := B8.kept hg75 n68
  replace R18 := R18.kept hg75 n69 n70
  replace B39 := B39.kept hg75 n71
  replace F46 := F46.kept hg75 n72
  replace F47 := F47.kept hg75 n73
  replace bel := bl_kept0 bel hg75 lo64
  replace hrd := R12.same bel
  clear hg75
  clear B65
  replace B76 : Blk w74 g63 #[.int .i64 (((xs.take 200).length : Int) - (((lst (xs.take 200) N k).length : Nat) : Int))] 3 := B76
  refine wpList_nil ?_
  show Code.wp _ _ _ _ _
  refine wp_seq ?_
  refine wp_seq ?_
  refine wp_region_lit ?_
  refine st_mv (.func (.func 24) #[] #[.pointer (some ⟨B1_44, 0, none⟩), .pointer (some ⟨B2_45, 0, none⟩)]) ?_
  simp only [nf0, nf1, nf2, nf3, nf4]
  refine wpList_nil ?_
  show Code.wp _ _ _ _ _
  refine wp_block ?_
  have hsz77 := bel.size
  refine wp_range (m := (got 0 (lst (xs.take 200) N k)).length) (ev := fun k_ => #[.int .i64 (0 + (k_ : Int)), .int .i64 (nth (got 0 (lst (xs.take 200) N k)) k_)]) (S := [r16, b17, g63]) rfl rfl (enters_of Try.func24 (by kernel_rfl) rfl) (lt3 R18.ltr R18.ltb B76.lt) (each_stops R18 F46 F47 (lt3 R18.ltr R18.ltb B76.lt) (ni3 n55.symm n56.symm n72)) (fun _ => rfl) (fun k_ W_ => Blk W_ g1 #[.slice A (xs.take 200).length cap] 22 ∧ Blk W_ g6 #[.bool false] 4 ∧ Reads W_ A ((xs.take 200).map (Value.int .i64)) ∧ Rg W_ r16 b17 N ((lst (xs.take 200) N k).drop k_) ∧ Blk W_ g28 #[.pointer (some ⟨r16, 0, none⟩)] 23 ∧ Blk W_ B1_44 #[.int .i64 0] 3 ∧ Blk W_ B2_45 #[.pointer (some ⟨r16, 0, none⟩)] 23 ∧ Blk W_ g63 #[.int .i64 ((((xs.take 200).length : Int) - ((lst (xs.take 200) N k).length : Int)) + (k_ : Int))] 3 ∧ Below w.heap.size w W_) (fun _ _ => False) ?_ ?_ ⟨B15, B8, hrd, (by rw [List.drop_zero]; exact R18), B39, F46, F47, (by rw [show (((xs.take 200).length : Int) - ((lst (xs.take 200) N k).length : Int)) + ((0 : Nat) : Int) = (((xs.take 200).length : Int) - ((lst (xs.take 200) N k).length : Int)) by omega]; exact B76), bel⟩ (fun k_ => ⟨#[.int .i64 room, .slice A xs.length cap, J40 2, .pointer (some ⟨g1, 0, none⟩), .pointer (some ⟨g6, 0, none⟩), .int .i64 (N : Int), .pointer (some ⟨g28, 0, none⟩), J40 7, J40 8, J40 9, J40 10, .func (.func 24) #[] #[.pointer (some ⟨B1_44, 0, none⟩), .pointer (some ⟨B2_45, 0, none⟩)], .pointer (some ⟨g63, 0, none⟩), J40 13, .int .i64 (nth (got 0 (lst (xs.take 200) N k)) k_), J40 15, J40 16, J40 17, J40 18, J40 19, J40 20, J40 21, J40 22, J40 23, J40 24, J40 25, J40 26, .slice A (xs.take 200).length cap, .int .i64 ((xs.take 200).length : Int), .int .i64 (k : Int), .bool false, J40 31, J40 32, J40 33, J40 34, J40 35, J40 36, J40 37, J40 38, J40 39, J40 40, J40 41, J40 42, J40 43, J40 44, J40 45, J40 46, J40 47, J40 48, J40 49, J40 50, J40 51, J40 52, J40 53, J40 54, J40 55, J40 56, J40 57, J40 58, J40 59, .pointer (some ⟨r16, 0, none⟩), .func (.func 24) #[] #[.pointer (some ⟨B1_44, 0, none⟩), .pointer (some ⟨B2_45, 0, none⟩)], .func (.func 24) #[] #[.pointer (some ⟨B1_44, 0, none⟩), .pointer (some ⟨B2_45, 0, none⟩)], .bool false, .slice A (xs.take 200).length cap, .int .i64 ((xs.take 200).length : Int), .pointer (some ⟨r16, 0, none⟩), .int .i64 (((lst (xs.take 200) N k).length : Nat) : Int), .int .i64 (((xs.take 200).length : Int) - (((lst (xs.take 200) N k).length : Nat) : Int)), .func (.func 24) #[] #[.pointer (some ⟨B1_44, 0, none⟩), .pointer (some ⟨B2_45, 0, none⟩)], .int .i64 (0 + (k_ : Int)), .int .i64 (nth (got 0 (lst (xs.take 200) N k)) k_), J40 72, J40 73, J40 74, J40 75, J40 76, J40 77, J40 78, J40 79, J40 80, J40 81, J40 82, J40 83, J40 84, J40 85, J40 86, J40 87, J40 88, J40 89, J40 90, J40 91, J40 92, J40 93, J40 94, J40 95, J40 96, J40 97, J40 98, J40 99, J40 100, J40 101, J40 102, J40 103, J40 104, J40 105, J40 106, J40 107, J40 108, J40 109, J40 110, J40 111], []⟩) ?_ ?_ ?_ ?_
  · rintro k_ A_ B_ r_ ⟨B15, B8, hrd, R18, B39, F46, F47, B76, bel⟩ hg_ hr_
    exact ⟨B15.own hg_ (fun r e => (hr_ r e).2), B8.own hg_ (fun r e => (hr_ r e).2), hrd.own hg_ (fun r e => (hr_ r e).2), R18.own hg_ (fun r e => (hr_ r e).2), B39.own hg_ (fun r e => (hr_ r e).2), F46.own hg_ (fun r e => (hr_ r e).2), F47.own hg_ (fun r e => (hr_ r e).2), B76.own hg_ (fun r e => (hr_ r e).2), bl_own bel hsz77 hg_ (fun r e => (hr_ r e).1)⟩
  · exact fun _ _ _ _ h _ _ => h.elim
  · intro l_ k_ W_ K_ hK_
    simp only [List.zip_toArray, List.zip_cons_cons, List.zip_nil_right, List.foldl_toArray, List.foldl_cons, List.foldl_nil, nf1, nf2, nf3]
    refine wpIn_region_lit ?_
    refine si_mv (.int .i64 (nth (got 0 (lst (xs.take 200) N k)) k_)) ?_
    simp only [nf0, nf1, nf2, nf3, nf4]
    refine wpListIn_nil ?_
    exact hK_
  · rintro l_ k_ W_ ⟨B15, B8, hrd, R18, B39, F46, F47, B76, belg⟩ hlt_
    have bel : Fr [r16, b17, g63] W_ W_ := Fr.refl _ _
    rw [got_zero] at hlt_
    have hdl : ((lst (xs.take 200) N k).drop k_).length = (lst (xs.take 200) N k).length - k_ := by rw [List.length_drop]
    have hgn : nth (got 0 (lst (xs.take 200) N k)) k_ = nth (lst (xs.take 200) N k) k_ := by rw [got_zero]
    have hnl := hnl0 k_ hlt_
    have hrdW_ := hrd
    refine wpIn_block ?_
    refine wpIn_seq ?_
    refine wpIn_region_lit ?_
    refine si_value (v := (.pointer (some ⟨r16, 0, none⟩))) (by rfl) (run_loadB (.tmp 6) rfl k_one_23 rfl B39 rfl) ?_
    simp only [nf0, nf1, nf2, nf3, nf4]
    refine si_call (by rfl) (k_run_call_9_1 (.tmp 73) rfl rfl _) (first_yes R18 (by omega)) ?_
    rintro _ w79 ⟨rfl, R78, hf80⟩
    simp only [nf0, nf1, nf2, nf3, nf4]
    replace B15 := B15.fr hf80 (ni2 n24 n26)
    replace B8 := B8.fr hf80 (ni2 n25 n27)
    replace B39 := B39.fr hf80 (ni2 n35.symm n36.symm)
    replace F46 := F46.fr hf80 (ni2 n55.symm n56.symm)
    replace F47 := F47.fr hf80 (ni2 n60.symm n61.symm)
    replace B76 := B76.fr hf80 (ni2 n69.symm n70.symm)
    replace bel := fr_call bel hf80 (by simp)
    replace hrd := Reads.frS R12 (lo3 lo19 lo20 lo64) hrdW_ bel
    clear hf80
    clear R18
    refine si_mv (.tuple #[.int .i64 (nth ((lst (xs.take 200) N k).drop k_) 0), .bool true]) ?_
    simp only [nf0, nf1, nf2, nf3, nf4]
    refine si_mv (.int .i64 (nth ((lst (xs.take 200) N k).drop k_) 0)) ?_
    simp only [nf0, nf1, nf2, nf3, nf4]
    refine si_mv (.bool true) ?_
    simp only [nf0, nf1, nf2, nf3, nf4]
    refine si_mv (.int .i64 (nth ((lst (xs.take 200) N k).drop k_) 0)) ?_
    simp only [nf0, nf1, nf2, nf3, nf4]
    refine si_mv (.bool true) ?_
    simp only [nf0, nf1, nf2, nf3, nf4]
    refine wpListIn_nil ?_
    show Code.wpIn _ _ _ _ _ _ _
    refine wpIn_seq ?_
    refine wpIn_seq ?_
    cases hg83 : decide (((xs.take 200).length : Int) ≤ ((((xs.take 200).length : Int) - ((lst (xs.take 200) N k).length : Int)) + (k_ : Int)))
    rotate_left
    · have hp90 := of_decide_eq_true hg83
      exfalso
      omega
    have hp84 := of_decide_eq_false hg83
    obtain ⟨b85, o86, rfl, _⟩ := hrd.at_ (by simp only [List.length_map]; omega)
    refine wpIn_region_lit ?_
    refine si_mv (.bool true) ?_
    simp only [nf0, nf1, nf2, nf3, nf4]
    refine si_value (v := (.bool false)) (by rfl) (run_not (.tmp 77) rfl (b := true) rfl w79) ?_
    simp only [nf0, nf1, nf2, nf3, nf4]
    refine si_mv (.bool false) ?_
    simp only [nf0, nf1, nf2, nf3, nf4]
    refine si_mv (.int .i64 (nth (got 0 (lst (xs.take 200) N k)) k_)) ?_
    simp only [nf0, nf1, nf2, nf3, nf4]
    refine si_mv (.int .i64 (nth ((lst (xs.take 200) N k).drop k_) 0)) ?_
    simp only [nf0, nf1, nf2, nf3, nf4]
    refine si_value (v := (.bool false)) (by rfl) (run_neq_int_t (.tmp 80) (.tmp 81) rfl rfl rfl (hgn.trans (nth_dropz _ _).symm) w79) ?_
    simp only [nf0, nf1, nf2, nf3, nf4]
    refine si_mv (.bool false) ?_
    simp only [nf0, nf1, nf2, nf3, nf4]
    refine si_mv (.bool false) ?_
    simp only [nf0, nf1, nf2, nf3, nf4]
    refine si_value (v := (.int .i64 ((((xs.take 200).length : Int) - ((lst (xs.take 200) N k).length : Int)) + (k_ : Int)))) (by rfl) (run_loadB (.tmp 12) rfl k_one_3 rfl B76 rfl) ?_
    simp only [nf0, nf1, nf2, nf3, nf4]
    refine si_value (v := (.slice (some ⟨b85, o86, none⟩) (xs.take 200).length cap)) (by rfl) (run_loadB (.tmp 3) rfl k_one_22 rfl B15 rfl) ?_
    simp only [nf0, nf1, nf2, nf3, nf4]
    refine si_value (v := (.int .i64 ((xs.take 200).length : Int))) (by rfl) (run_len (.tmp 86) rfl ⟨_, Try.underlying22⟩ rfl w79) ?_
    simp only [nf0, nf1, nf2, nf3, nf4]
    refine si_value (v := (.bool false)) (by rfl) ((run_geq (.tmp 85) (.tmp 87) rfl rfl rfl w79).trans (by rw [hg83])) ?_
    simp only [nf0, nf1, nf2, nf3, nf4]
    refine si_mv (.bool false) ?_
    simp only [nf0, nf1, nf2, nf3, nf4]
    refine si_mv (.bool false) ?_
    simp only [nf0, nf1, nf2, nf3, nf4]
    refine si_mv (.int .i64 (nth (got 0 (lst (xs.take 200) N k)) k_)) ?_
    simp only [nf0, nf1, nf2, nf3, nf4]
    refine si_value (v := (.slice (some ⟨b85, o86, none⟩) (xs.take 200).length cap)) (by rfl) (run_loadB (.tmp 3) rfl k_one_22 rfl B15 rfl) ?_
    simp only [nf0, nf1, nf2, nf3, nf4]
    refine si_value (v := (.int .i64 ((((xs.take 200).length : Int) - ((lst (xs.take 200) N k).length : Int)) + (k_ : Int)))) (by rfl) (run_loadB (.tmp 12) rfl k_one_3 rfl B76 rfl) ?_
    simp only [nf0, nf1, nf2, nf3, nf4]
    refine si_value (v := (.pointer (some ⟨b85, o86 + (((xs.take 200).length - (lst (xs.take 200) N k).length) + k_) * 1, none⟩))) (by rfl) (run_indexAddrN (.tmp 92) (.tmp 93) rfl Try.underlying22 slInt'.sz (i := (((xs.take 200).length - (lst (xs.take 200) N k).length) + k_)) rfl (by exact (congrArg (Value.int .i64) (show ((((xs.take 200).length : Int) - ((lst (xs.take 200) N k).length : Int)) + (k_ : Int)) = ((((xs.take 200).length - (lst (xs.take 200) N k).length) + k_ : Nat) : Int) by omega))) (by omega) w79) ?_
    simp only [nf0, nf1, nf2, nf3, nf4]
    refine si_value (v := (.int .i64 (nth (xs.take 200) (((xs.take 200).length - (lst (xs.take 200) N k).length) + k_)))) (by rfl) (run_load1 (.tmp 94) rfl Try.underlying3 rfl slInt'.sz rfl (Reads.intAt hrd (((xs.take 200).length - (lst (xs.take 200) N k).length) + k_) (by omega))) ?_
    simp only [nf0, nf1, nf2, nf3, nf4]
    refine si_value (v := (.bool false)) (by rfl) (run_neq_int_t (.tmp 91) (.tmp 95) rfl rfl rfl (hgn.trans (hnl.trans (by congr 1; omega))) w79) ?_
    simp only [nf0, nf1, nf2, nf3, nf4]
    refine si_mv (.bool false) ?_
    simp only [nf0, nf1, nf2, nf3, nf4]
    refine wpListIn_nil ?_
    show Code.wpIn _ _ _ _ _ _ _
    refine wpIn_cond_false rfl ?_
    refine wpIn_skip ?_
    show Code.wpIn _ _ _ _ _ _ _
    refine wpIn_region_lit ?_
    refine si_value (v := (.int .i64 ((((xs.take 200).length : Int) - ((lst (xs.take 200) N k).length : Int)) + (k_ : Int)))) (by rfl) (run_loadB (.tmp 12) rfl k_one_3 rfl B76 rfl) ?_
    simp only [nf0, nf1, nf2, nf3, nf4]
    refine si_value (v := (.int .i64 (((((xs.take 200).length : Int) - ((lst (xs.take 200) N k).length : Int)) + (k_ : Int)) + 1))) (by rfl) (run_add_in (.tmp 98) (.const (.int .i64 1)) rfl rfl rfl (by omega) w79) ?_
    simp only [nf0, nf1, nf2, nf3, nf4]
    refine si_cell (v := (.int .i64 (((((xs.take 200).length : Int) - ((lst (xs.take 200) N k).length : Int)) + (k_ : Int)) + 1))) (by rfl) (run_storeB (.tmp 12) (.tmp 99) rfl k_one_3 B76 (show 0 < 1 by decide) rfl rfl rfl rfl) B76 ?_
    intro w87 B89 hg88
    simp only [nf0, nf1, nf2, nf3, nf4]
    replace B15 := B15.kept hg88 n67
    replace B8 := B8.kept hg88 n68
    replace R78 := R78.kept hg88 n69 n70
    replace B39 := B39.kept hg88 n71
    replace F46 := F46.kept hg88 n72
    replace F47 := F47.kept hg88 n73
    replace bel := fr_in bel hg88 (by simp)
    replace hrd := Reads.frS R12 (lo3 lo19 lo20 lo64) hrdW_ bel
    clear hg88
    clear B76
    replace B89 : Blk w87 g63 #[.int .i64 (((((xs.take 200).length : Int) - ((lst (xs.take 200) N k).length : Int)) + (k_ : Int)) + 1)] 3 := B89
    refine wpListIn_nil ?_
    show _ ∧ _
    exact ⟨bel, B15, B8, hrd, (by have h := R78; rw [wo_drop] at h; exact h), B39, F46, F47, (by rw [show (((xs.take 200).length : Int) - ((lst (xs.take 200) N k).length : Int)) + ((k_ + 1 : Nat) : Int) = (((xs.take 200).length : Int) - ((lst (xs.take 200) N k).length : Int)) + (k_ : Int) + 1 by omega]; exact B89), (bl_call belg bel (lo3 lo19 lo20 lo64))⟩
  · rintro D_ W_ hD_ ⟨B15, B8, hrd, R18, B39, F46, F47, B76, bel⟩ hK_
    have hgz : (got 0 (lst (xs.take 200) N k)).length = (lst (xs.take 200) N k).length := by rw [got_zero]
    have hdz : ((lst (xs.take 200) N k).drop (got 0 (lst (xs.take 200) N k)).length).length = 0 := by rw [hgz, List.drop_length]; rfl
    show Code.wp _ _ _ _ _
    refine wp_seq ?_
    cases hg91 : decide (((((xs.take 200).length : Int) - ((lst (xs.take 200) N k).length : Int)) + (((got 0 (lst (xs.take 200) N k)).length) : Int)) = ((xs.take 200).length : Int))
    · have hp92 := of_decide_eq_false hg91
      exfalso
      omega
    have hp93 := of_decide_eq_true hg91
    cases hg96 : decide (((((lst (xs.take 200) N k).drop (got 0 (lst (xs.take 200) N k)).length).length : Nat) : Int) = 0)
    · have hp97 := of_decide_eq_false hg96
      exfalso
      omega
    have hp98 := of_decide_eq_true hg96
    refine wp_region_lit ?_
    refine st_value (v := (.int .i64 ((((xs.take 200).length : Int) - ((lst (xs.take 200) N k).length : Int)) + (((got 0 (lst (xs.take 200) N k)).length) : Int)))) (by rfl) (run_loadB (.tmp 12) rfl k_one_3 rfl B76 rfl) ?_
    simp only [nf0, nf1, nf2, nf3, nf4]
    refine st_value (v := (.slice A (xs.take 200).length cap)) (by rfl) (run_loadB (.tmp 3) rfl k_one_22 rfl B15 rfl) ?_
    simp only [nf0, nf1, nf2, nf3, nf4]
    refine st_value (v := (.int .i64 ((xs.take 200).length : Int))) (by rfl) (run_len (.tmp 101) rfl ⟨_, Try.underlying22⟩ rfl W_) ?_
    simp only [nf0, nf1, nf2, nf3, nf4]
    refine st_value (v := (.bool true)) (by rfl) ((run_eql_int (.tmp 100) (.tmp 102) rfl rfl rfl W_).trans (by rw [hg91])) ?_
    simp only [nf0, nf1, nf2, nf3, nf4]
    refine st_mv (.bool true) ?_
    simp only [nf0, nf1, nf2, nf3, nf4]
    refine st_value (v := (.pointer (some ⟨r16, 0, none⟩))) (by rfl) (run_loadB (.tmp 6) rfl k_one_23 rfl B39 rfl) ?_
    simp only [nf0, nf1, nf2, nf3, nf4]
    refine st_call1 (v := (.int .i64 ((((lst (xs.take 200) N k).drop (got 0 (lst (xs.take 200) N k)).length).length : Nat) : Int))) (by rfl) (k_run_call_8_1 (.tmp 105) rfl rfl _) (len_rg R18) ?_
    intro w99 hb100
    simp only [nf0, nf1, nf2, nf3, nf4]
    replace B15 := B15.below hb100
    replace B8 := B8.below hb100
    replace hrd := hrd.same hb100
    replace R18 := R18.below hb100
    replace B39 := B39.below hb100
    replace F46 := F46.below hb100
    replace F47 := F47.below hb100
    replace B76 := B76.below hb100
    replace hK_ := hK_.below hb100
    replace bel := bl_step bel hb100
    clear hb100
    refine st_value (v := (.bool true)) (by rfl) ((run_eql_int (.tmp 106) (.const (.int .i64 0)) rfl rfl rfl w99).trans (by rw [hg96])) ?_
    simp only [nf0, nf1, nf2, nf3, nf4]
    refine st_mv (.bool true) ?_
    simp only [nf0, nf1, nf2, nf3, nf4]
    refine st_mv (.bool true) ?_
    simp only [nf0, nf1, nf2, nf3, nf4]
    refine st_call1 (v := (.bool true)) (by rfl) (k_run_call_12_0  rfl  _) (lives_calls w99) ?_
    intro w101 hb102
    simp only [nf0, nf1, nf2, nf3, nf4]
    replace B15 := B15.below hb102
    replace B8 := B8.below hb102
    replace hrd := hrd.same hb102
    replace R18 := R18.below hb102
    replace B39 := B39.below hb102
    replace F46 := F46.below hb102
    replace F47 := F47.below hb102
    replace B76 := B76.below hb102
    replace hK_ := hK_.below hb102
    replace bel := bl_step bel hb102
    clear hb102
    refine st_mv (.bool true) ?_
    simp only [nf0, nf1, nf2, nf3, nf4]
    refine st_cell (v := (.bool true)) (by rfl) (run_storeB (.tmp 4) (.tmp 111) rfl k_one_4 B8 (show 0 < 1 by decide) rfl rfl rfl rfl) B8 ?_
    intro w103 B105 hg104
    simp only [nf0, nf1, nf2, nf3, nf4]
    replace B15 := B15.kept hg104 n11
    replace R18 := R18.kept hg104 n25.symm n27.symm
    replace B39 := B39.kept hg104 n34.symm
    replace F46 := F46.kept hg104 n54.symm
    replace F47 := F47.kept hg104 n59.symm
    replace B76 := B76.kept hg104 n68.symm
    replace hK_ := hK_.kept B8 hg104
    replace bel := bl_kept0 bel hg104 lo10
    replace hrd := R12.same bel
    clear hg104
    clear B8
    replace B105 : Blk w103 g6 #[.bool true] 4 := B105
    refine wpList_nil ?_
    show Code.wp _ _ _ _ _
    refine wp_ret ?_
    first | show bodyPostM _ _ _ _ _ _ _ _ | (simp only [Exit.then, Exit.inBlock]; show bodyPostM _ _ _ _ _ _ _ _)
    refine postM_mark (v := (.bool true)) rfl hK_ (results_cell1 rfl k_one_4 rfl (B105.putD hK_ _)) ⟨?_, bl_putD bel (Nat.le_trans hsz77 hD_) _⟩
    rw [show (true) = true from rfl]
  · rintro D_ k_ W_ hD_ hlt_ hx_ hK_
    exact hx_.elim
end Go.Proofs.Ytdhhcjhinpmeeaa
