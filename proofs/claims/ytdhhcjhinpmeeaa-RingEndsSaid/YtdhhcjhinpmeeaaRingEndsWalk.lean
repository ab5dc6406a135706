/- What the law RingEnds does. -/
import Derived.Test.YtdhhcjhinpmeeaaRingInts
namespace Go.Proofs.Ytdhhcjhinpmeeaa
open Go.RowKit Go.WideShapes Go.ChangeShapes
set_option linter.unusedSimpArgs false
set_option linter.unusedVariables false

theorem f0_run_call_7_1 {o : Oper} {a : Act} (x0 : Operand) {ts : Array TypeId} (ho : o.op = .call { callee := .value (.func 7), args := #[x0], argTypes := ts }) {v0 : Value} (h0 : a.eval x0 = v0) (W : World) : (execOp a.eval o).run Try.prog W = .ok (.enter 7 #[v0]) W := by
  unfold execOp
  simp only [ho]
  subst h0
  go_simp
theorem f0_run_call_8_1 {o : Oper} {a : Act} (x0 : Operand) {ts : Array TypeId} (ho : o.op = .call { callee := .value (.func 8), args := #[x0], argTypes := ts }) {v0 : Value} (h0 : a.eval x0 = v0) (W : World) : (execOp a.eval o).run Try.prog W = .ok (.enter 8 #[v0]) W := by
  unfold execOp
  simp only [ho]
  subst h0
  go_simp
theorem f0_run_call_9_1 {o : Oper} {a : Act} (x0 : Operand) {ts : Array TypeId} (ho : o.op = .call { callee := .value (.func 9), args := #[x0], argTypes := ts }) {v0 : Value} (h0 : a.eval x0 = v0) (W : World) : (execOp a.eval o).run Try.prog W = .ok (.enter 9 #[v0]) W := by
  unfold execOp
  simp only [ho]
  subst h0
  go_simp
theorem f0_run_call_10_2 {o : Oper} {a : Act} (x0 : Operand) (x1 : Operand) {ts : Array TypeId} (ho : o.op = .call { callee := .value (.func 10), args := #[x0, x1], argTypes := ts }) {v0 : Value} (h0 : a.eval x0 = v0) {v1 : Value} (h1 : a.eval x1 = v1) (W : World) : (execOp a.eval o).run Try.prog W = .ok (.enter 10 #[v0, v1]) W := by
  unfold execOp
  simp only [ho]
  subst h0 h1
  go_simp
theorem f0_run_call_12_0 {o : Oper} {a : Act}  {ts : Array TypeId} (ho : o.op = .call { callee := .value (.func 12), args := #[], argTypes := ts })  (W : World) : (execOp a.eval o).run Try.prog W = .ok (.enter 12 #[]) W := by
  unfold execOp
  simp only [ho]
  go_simp
theorem f0_run_call_13_2 {o : Oper} {a : Act} (x0 : Operand) (x1 : Operand) {ts : Array TypeId} (ho : o.op = .call { callee := .value (.func 13), args := #[x0, x1], argTypes := ts }) {v0 : Value} (h0 : a.eval x0 = v0) {v1 : Value} (h1 : a.eval x1 = v1) (W : World) : (execOp a.eval o).run Try.prog W = .ok (.enter 13 #[v0, v1]) W := by
  unfold execOp
  simp only [ho]
  subst h0 h1
  go_simp
theorem f0_run_call_14_3 {o : Oper} {a : Act} (x0 : Operand) (x1 : Operand) (x2 : Operand) {ts : Array TypeId} (ho : o.op = .call { callee := .value (.func 14), args := #[x0, x1, x2], argTypes := ts }) {v0 : Value} (h0 : a.eval x0 = v0) {v1 : Value} (h1 : a.eval x1 = v1) {v2 : Value} (h2 : a.eval x2 = v2) (W : World) : (execOp a.eval o).run Try.prog W = .ok (.enter 14 #[v0, v1, v2]) W := by
  unfold execOp
  simp only [ho]
  subst h0 h1 h2
  go_simp
theorem f1_run_call_7_1 {o : Oper} {a : Act} (x0 : Operand) {ts : Array TypeId} (ho : o.op = .call { callee := .value (.func 7), args := #[x0], argTypes := ts }) {v0 : Value} (h0 : a.eval x0 = v0) (W : World) : (execOp a.eval o).run Try.prog W = .ok (.enter 7 #[v0]) W := by
  unfold execOp
  simp only [ho]
  subst h0
  go_simp
theorem f1_run_call_8_1 {o : Oper} {a : Act} (x0 : Operand) {ts : Array TypeId} (ho : o.op = .call { callee := .value (.func 8), args := #[x0], argTypes := ts }) {v0 : Value} (h0 : a.eval x0 = v0) (W : World) : (execOp a.eval o).run Try.prog W = .ok (.enter 8 #[v0]) W := by
  unfold execOp
  simp only [ho]
  subst h0
  go_simp
theorem f1_run_call_9_1 {o : Oper} {a : Act} (x0 : Operand) {ts : Array TypeId} (ho : o.op = .call { callee := .value (.func 9), args := #[x0], argTypes := ts }) {v0 : Value} (h0 : a.eval x0 = v0) (W : World) : (execOp a.eval o).run Try.prog W = .ok (.enter 9 #[v0]) W := by
  unfold execOp
  simp only [ho]
  subst h0
  go_simp
theorem f1_run_call_10_2 {o : Oper} {a : Act} (x0 : Operand) (x1 : Operand) {ts : Array TypeId} (ho : o.op = .call { callee := .value (.func 10), args := #[x0, x1], argTypes := ts }) {v0 : Value} (h0 : a.eval x0 = v0) {v1 : Value} (h1 : a.eval x1 = v1) (W : World) : (execOp a.eval o).run Try.prog W = .ok (.enter 10 #[v0, v1]) W := by
  unfold execOp
  simp only [ho]
  subst h0 h1
  go_simp
theorem f1_run_call_12_0 {o : Oper} {a : Act}  {ts : Array TypeId} (ho : o.op = .call { callee := .value (.func 12), args := #[], argTypes := ts })  (W : World) : (execOp a.eval o).run Try.prog W = .ok (.enter 12 #[]) W := by
  unfold execOp
  simp only [ho]
  go_simp
theorem f1_run_call_13_2 {o : Oper} {a : Act} (x0 : Operand) (x1 : Operand) {ts : Array TypeId} (ho : o.op = .call { callee := .value (.func 13), args := #[x0, x1], argTypes := ts }) {v0 : Value} (h0 : a.eval x0 = v0) {v1 : Value} (h1 : a.eval x1 = v1) (W : World) : (execOp a.eval o).run Try.prog W = .ok (.enter 13 #[v0, v1]) W := by
  unfold execOp
  simp only [ho]
  subst h0 h1
  go_simp
theorem f1_run_call_14_3 {o : Oper} {a : Act} (x0 : Operand) (x1 : Operand) (x2 : Operand) {ts : Array TypeId} (ho : o.op = .call { callee := .value (.func 14), args := #[x0, x1, x2], argTypes := ts }) {v0 : Value} (h0 : a.eval x0 = v0) {v1 : Value} (h1 : a.eval x1 = v1) {v2 : Value} (h2 : a.eval x2 = v2) (W : World) : (execOp a.eval o).run Try.prog W = .ok (.enter 14 #[v0, v1, v2]) W := by
  unfold execOp
  simp only [ho]
  subst h0 h1 h2
  go_simp
theorem f1_run_call_15_1 {o : Oper} {a : Act} (x0 : Operand) {ts : Array TypeId} (ho : o.op = .call { callee := .value (.func 15), args := #[x0], argTypes := ts }) {v0 : Value} (h0 : a.eval x0 = v0) (W : World) : (execOp a.eval o).run Try.prog W = .ok (.enter 15 #[v0]) W := by
  unfold execOp
  simp only [ho]
  subst h0
  go_simp

attribute [local irreducible] Go.wpList Go.Code.wp
set_option maxRecDepth 100000 in
set_option maxHeartbeats 4000000 in
theorem ringEnds_front (A : Option Addr) (xs : List Int) (cap : Nat) (hcap : xs.length ≤ cap) (w : World) (hr : Reads w A (xs.map (Value.int .i64))) :
    Calls Try.prog 4 #[.slice A xs.length cap, .bool false] w fun e w' => e = .returned (.bool true) ∧ Below w.heap.size w w' := by
  have bel : Below w.heap.size w w := Below.refl _ _
  have hl1 := len_take100 xs
  go_enter Try.func4, Try.ntmps4
  refine wp_seq ?_
  refine wp_region_lit ?_
  refine st_mv (.bool false) ?_
  simp only [nf0, nf1, nf2, nf3, nf4]
  refine wpList_nil ?_
  show Code.wp _ _ _ _ _
  refine wp_seq ?_
  refine wp_region_lit ?_
  refine st_mv (.slice A xs.length cap) ?_
  simp only [nf0, nf1, nf2, nf3, nf4]
  refine st_mv (.slice A xs.length cap) ?_
  simp only [nf0, nf1, nf2, nf3, nf4]
  refine st_value (v := (.int .i64 (xs.length : Int))) (by rfl) (run_len (.tmp 15) rfl ⟨_, Try.underlying22⟩ rfl w) ?_
  simp only [nf0, nf1, nf2, nf3, nf4]
  refine st_value (v := (.int .i64 (min (xs.length : Int) 100))) (by rfl) (run_min2 (.tmp 16) (.const (.int .i64 100)) rfl rfl rfl w) ?_
  simp only [nf0, nf1, nf2, nf3, nf4]
  have R1 := hr.takeI 100
  refine st_value (v := (.slice A (xs.take 100).length cap)) (by rfl) (run_cut_take (.tmp 14) (.tmp 17) rfl Try.underlying22 slInt.sz rfl 100 rfl rfl hcap w) ?_
  simp only [nf0, nf1, nf2, nf3, nf4]
  refine st_mv (.slice A (xs.take 100).length cap) ?_
  simp only [nf0, nf1, nf2, nf3, nf4]
  refine wpList_nil ?_
  show Code.wp _ _ _ _ _
  refine wp_seq ?_
  refine wp_region_lit ?_
  refine st_mv (.slice A (xs.take 100).length cap) ?_
  simp only [nf0, nf1, nf2, nf3, nf4]
  refine st_value (v := (.int .i64 ((xs.take 100).length : Int))) (by rfl) (run_len (.tmp 19) rfl ⟨_, Try.underlying22⟩ rfl w) ?_
  simp only [nf0, nf1, nf2, nf3, nf4]
  refine st_call (by rfl) (f0_run_call_7_1 (.tmp 20) rfl rfl _) (new_calls (X := ((xs.take 100).length : Int)) (N := ((xs.take 100).length)) (by omega) w) ?_
  rintro _ w8 ⟨r2, b3, rfl, R4, lo5, lo6, hf9⟩
  simp only [nf0, nf1, nf2, nf3, nf4]
  replace lo5 := low_le bel lo5
  replace lo6 := low_le bel lo6
  replace bel := bl_step bel hf9
  clear hf9
  have ne7 : r2 ≠ b3 := Rg.nerb R4
  refine st_mv (.pointer (some ⟨r2, 0, none⟩)) ?_
  simp only [nf0, nf1, nf2, nf3, nf4]
  refine wpList_nil ?_
  show Code.wp _ _ _ _ _
  refine wp_seq ?_
  refine wp_seq ?_
  refine wp_region_lit ?_
  refine st_mv (.slice A (xs.take 100).length cap) ?_
  simp only [nf0, nf1, nf2, nf3, nf4]
  refine st_value (v := (.int .i64 ((xs.take 100).length : Int))) (by rfl) (run_len (.tmp 22) rfl ⟨_, Try.underlying22⟩ rfl w8) ?_
  simp only [nf0, nf1, nf2, nf3, nf4]
  refine st_mv (.int .i64 0) ?_
  simp only [nf0, nf1, nf2, nf3, nf4]
  refine wpList_nil ?_
  show Code.wp _ _ _ _ _
  refine wp_block ?_
  refine wp_loop_left (fun n_ a_ wr_ => (fun J10 => ∃ (k : Nat), n_ = (xs.take 100).length - k ∧ a_ = ⟨#[.slice A (xs.take 100).length cap, .bool false, J10 2, J10 3, J10 4, .pointer (some ⟨r2, 0, none⟩), J10 6, J10 7, J10 8, J10 9, J10 10, J10 11, J10 12, J10 13, J10 14, J10 15, J10 16, J10 17, J10 18, J10 19, J10 20, J10 21, .slice A (xs.take 100).length cap, .int .i64 ((xs.take 100).length : Int), .int .i64 (k : Int), J10 25, J10 26, J10 27, J10 28, J10 29, J10 30, J10 31, J10 32, J10 33, J10 34, J10 35, J10 36, J10 37, J10 38, J10 39, J10 40, J10 41, J10 42, J10 43, undef, J10 45, J10 46, J10 47, J10 48, J10 49, J10 50, J10 51, J10 52, J10 53, J10 54, J10 55, J10 56, J10 57, J10 58, J10 59, J10 60, J10 61, J10 62, J10 63, J10 64, J10 65, J10 66, J10 67, J10 68, J10 69, J10 70, J10 71, J10 72, J10 73, J10 74, J10 75, J10 76, J10 77, J10 78, J10 79, J10 80, J10 81, J10 82, J10 83, J10 84, J10 85, J10 86, J10 87, J10 88, J10 89, J10 90, J10 91, J10 92, J10 93, J10 94, J10 95, J10 96, J10 97, J10 98, J10 99, J10 100, J10 101], []⟩ ∧ Rg wr_ r2 b3 ((xs.take 100).length) ((xs.take 100).take k) ∧ Below w.heap.size w wr_ ∧ (k ≤ (xs.take 100).length)) (jk a_)) ((xs.take 100).length - 0) ⟨0, rfl, rfl, (by rw [List.take_zero]; exact R4), bel, Nat.zero_le _⟩ ?_
  clear R4
  clear bel
  intro n_ a_ w11 h_
  revert h_
  generalize jk a_ = J10
  rintro ⟨k, hms, rfl, R4, bel, hk⟩
  refine wp_seq ?_
  refine wp_region_lit ?_
  refine st_value (v := (.bool (decide ((k : Int) < ((xs.take 100).length : Int))))) (by rfl) (run_lss (.tmp 24) (.tmp 23) rfl rfl rfl w11) ?_
  simp only [nf0, nf1, nf2, nf3, nf4]
  refine wpList_nil ?_
  show Code.wp _ _ _ _ _
  refine wp_seq ?_
  cases hg12 : decide ((k : Int) < ((xs.take 100).length : Int))
  rotate_left
  · have hp40 := of_decide_eq_true hg12
    refine wp_cond_true rfl ?_
    refine wp_skip ?_
    show Code.wp _ _ _ _ _
    refine wp_seq ?_
    refine wp_block ?_
    refine wp_seq ?_
    obtain ⟨b41, o42, rfl, _⟩ := (R1.same bel).at_ (by simp only [List.length_map]; omega)
    have hlk : ((xs.take 100).take k).length = k := by rw [List.length_take]; omega
    refine wp_region_lit ?_
    refine st_value (v := (.pointer (some ⟨b41, o42 + k * 1, none⟩))) (by rfl) (run_indexAddrN (.tmp 22) (.tmp 24) rfl Try.underlying22 slInt.sz (i := k) rfl rfl (by omega) w11) ?_
    simp only [nf0, nf1, nf2, nf3, nf4]
    refine st_value (v := (.int .i64 (nth (xs.take 100) k))) (by rfl) (run_load1 (.tmp 26) rfl Try.underlying3 rfl slInt.sz rfl (Reads.intAt (R1.same bel) k (by omega))) ?_
    simp only [nf0, nf1, nf2, nf3, nf4]
    refine st_mv (.int .i64 (nth (xs.take 100) k)) ?_
    simp only [nf0, nf1, nf2, nf3, nf4]
    refine wpList_nil ?_
    show Code.wp _ _ _ _ _
    refine wp_seq ?_
    refine wp_region_lit ?_
    refine st_mv (.pointer (some ⟨r2, 0, none⟩)) ?_
    simp only [nf0, nf1, nf2, nf3, nf4]
    refine st_mv (.int .i64 (nth (xs.take 100) k)) ?_
    simp only [nf0, nf1, nf2, nf3, nf4]
    refine st_call (by rfl) (f0_run_call_10_2 (.tmp 28) (.tmp 29) rfl rfl rfl _) (back_yes R4 (by omega) (nth (xs.take 100) k)) ?_
    rintro _ w44 ⟨rfl, R43, hf45⟩
    simp only [nf0, nf1, nf2, nf3, nf4]
    replace bel := bl_call bel hf45 (lo2 lo5 lo6)
    clear hf45
    clear R4
    refine st_value (v := (.bool false)) (by rfl) (run_not (.tmp 30) rfl (b := true) rfl w44) ?_
    simp only [nf0, nf1, nf2, nf3, nf4]
    refine wpList_nil ?_
    show Code.wp _ _ _ _ _
    refine wp_cond_false rfl ?_
    refine wp_skip ?_
    show Code.wp _ _ _ _ _
    refine wp_region_lit ?_
    refine st_value (v := (.int .i64 ((k : Int) + 1))) (by rfl) (run_add_in (.tmp 24) (.const (.int .i64 1)) rfl rfl rfl (by omega) w44) ?_
    simp only [nf0, nf1, nf2, nf3, nf4]
    refine st_mv (.int .i64 ((k : Int) + 1)) ?_
    simp only [nf0, nf1, nf2, nf3, nf4]
    refine wpList_nil ?_
    show ∃ m, m < _ ∧ _
    exact ⟨_, (by omega), (k + 1), rfl, rfl, (by rw [take_nth (l := (xs.take 100)) (k := k) (by omega)]; exact R43), bel, (by omega)⟩
  have hp13 := of_decide_eq_false hg12
  refine wp_cond_false rfl ?_
  refine wp_exit ?_
  show Code.wp _ _ _ _ _
  refine wp_seq ?_
  refine wp_seq ?_
  have hkk : k = (xs.take 100).length := by omega
  replace R4 : Rg w11 r2 b3 ((xs.take 100).length) (xs.take 100) := (by have := R4; rw [hkk, List.take_length] at this; exact this)
  refine wp_region_lit ?_
  refine st_mv (.pointer (some ⟨r2, 0, none⟩)) ?_
  simp only [nf0, nf1, nf2, nf3, nf4]
  refine st_call (by rfl) (f0_run_call_10_2 (.tmp 33) (.const (.int .i64 0)) rfl rfl rfl _) (back_no R4 (by omega) 0) ?_
  rintro _ w15 ⟨rfl, R14, hf16⟩
  simp only [nf0, nf1, nf2, nf3, nf4]
  replace bel := bl_call bel hf16 (lo2 lo5 lo6)
  clear hf16
  clear R4
  refine st_mv (.bool false) ?_
  simp only [nf0, nf1, nf2, nf3, nf4]
  refine st_mv (.pointer (some ⟨r2, 0, none⟩)) ?_
  simp only [nf0, nf1, nf2, nf3, nf4]
  refine st_call (by rfl) (f0_run_call_13_2 (.tmp 36) (.const (.int .i64 0)) rfl rfl rfl _) (front_no R14 (by omega) 0) ?_
  rintro _ w18 ⟨rfl, R17, hf19⟩
  simp only [nf0, nf1, nf2, nf3, nf4]
  replace bel := bl_call bel hf19 (lo2 lo5 lo6)
  clear hf19
  clear R14
  refine st_mv (.bool false) ?_
  simp only [nf0, nf1, nf2, nf3, nf4]
  refine st_mv (.bool false) ?_
  simp only [nf0, nf1, nf2, nf3, nf4]
  refine st_mv (.pointer (some ⟨r2, 0, none⟩)) ?_
  simp only [nf0, nf1, nf2, nf3, nf4]
  refine st_call (by rfl) (f0_run_call_14_3 (.tmp 40) (.const (.int .i64 0)) (.const (.int .i64 0)) rfl rfl rfl rfl _) (put_no R17 (i := 0) (by omega) 0) ?_
  rintro _ w21 ⟨rfl, R20, hf22⟩
  simp only [nf0, nf1, nf2, nf3, nf4]
  replace bel := bl_call bel hf22 (lo2 lo5 lo6)
  clear hf22
  clear R17
  refine st_mv (.bool false) ?_
  simp only [nf0, nf1, nf2, nf3, nf4]
  refine wpList_nil ?_
  show Code.wp _ _ _ _ _
  refine wp_cond_false rfl ?_
  refine wp_skip ?_
  show Code.wp _ _ _ _ _
  refine wp_seq ?_
  refine wp_seq ?_
  refine wp_region_lit ?_
  refine st_mv (.slice A (xs.take 100).length cap) ?_
  simp only [nf0, nf1, nf2, nf3, nf4]
  refine st_value (v := (.int .i64 ((xs.take 100).length : Int))) (by rfl) (run_len (.tmp 43) rfl ⟨_, Try.underlying22⟩ rfl w21) ?_
  simp only [nf0, nf1, nf2, nf3, nf4]
  refine st_mv (.int .i64 0) ?_
  simp only [nf0, nf1, nf2, nf3, nf4]
  refine wpList_nil ?_
  show Code.wp _ _ _ _ _
  refine wp_block ?_
  refine wp_loop_left (fun n_ a_ wr_ => (fun J23 => ∃ (i : Nat), n_ = (xs.take 100).length - i ∧ a_ = ⟨#[.slice A (xs.take 100).length cap, .bool false, J23 2, J23 3, J23 4, .pointer (some ⟨r2, 0, none⟩), J23 6, J23 7, J23 8, J23 9, J23 10, J23 11, J23 12, J23 13, J23 14, J23 15, J23 16, J23 17, J23 18, J23 19, J23 20, J23 21, .slice A (xs.take 100).length cap, .int .i64 ((xs.take 100).length : Int), J23 24, J23 25, J23 26, J23 27, J23 28, J23 29, J23 30, J23 31, J23 32, J23 33, J23 34, J23 35, J23 36, J23 37, J23 38, J23 39, J23 40, J23 41, J23 42, J23 43, .int .i64 ((xs.take 100).length : Int), .int .i64 (i : Int), J23 46, J23 47, J23 48, J23 49, J23 50, J23 51, J23 52, J23 53, J23 54, J23 55, J23 56, J23 57, J23 58, J23 59, J23 60, J23 61, J23 62, J23 63, J23 64, J23 65, J23 66, J23 67, J23 68, J23 69, J23 70, J23 71, J23 72, J23 73, J23 74, J23 75, J23 76, J23 77, J23 78, J23 79, J23 80, J23 81, J23 82, J23 83, J23 84, J23 85, J23 86, J23 87, J23 88, J23 89, J23 90, J23 91, J23 92, J23 93, J23 94, J23 95, J23 96, J23 97, J23 98, J23 99, J23 100, J23 101], []⟩ ∧ Rg wr_ r2 b3 ((xs.take 100).length) ((xs.take 100).drop i) ∧ Below w.heap.size w wr_ ∧ (i ≤ (xs.take 100).length)) (jk a_)) ((xs.take 100).length - 0) ⟨0, rfl, rfl, (by rw [List.drop_zero]; exact R20), bel, Nat.zero_le _⟩ ?_
  clear R20
  clear bel
  intro n_ a_ w24 h_
  revert h_
  generalize jk a_ = J23
  rintro ⟨i, hms, rfl, R20, bel, hi⟩
  have hti : ((xs.take 100).drop i).length = (xs.take 100).length - i := by rw [List.length_drop]
  refine wp_seq ?_
  refine wp_region_lit ?_
  refine st_value (v := (.bool (decide ((i : Int) < ((xs.take 100).length : Int))))) (by rfl) (run_lss (.tmp 45) (.tmp 44) rfl rfl rfl w24) ?_
  simp only [nf0, nf1, nf2, nf3, nf4]
  refine wpList_nil ?_
  show Code.wp _ _ _ _ _
  refine wp_seq ?_
  cases hg25 : decide ((i : Int) < ((xs.take 100).length : Int))
  · have hp26 := of_decide_eq_false hg25
    refine wp_cond_false rfl ?_
    refine wp_exit ?_
    show Code.wp _ _ _ _ _
    refine wp_seq ?_
    have hti : ((xs.take 100).drop i).length = (xs.take 100).length - i := by rw [List.length_drop]
    refine wp_region_lit ?_
    refine st_mv (.pointer (some ⟨r2, 0, none⟩)) ?_
    simp only [nf0, nf1, nf2, nf3, nf4]
    refine st_call (by rfl) (f0_run_call_9_1 (.tmp 88) rfl rfl _) (first_no R20 (by omega)) ?_
    rintro _ w28 ⟨rfl, R27, hf29⟩
    simp only [nf0, nf1, nf2, nf3, nf4]
    replace bel := bl_call bel hf29 (lo2 lo5 lo6)
    clear hf29
    clear R20
    refine st_mv (.tuple #[.int .i64 0, .bool false]) ?_
    simp only [nf0, nf1, nf2, nf3, nf4]
    refine st_mv (.int .i64 0) ?_
    simp only [nf0, nf1, nf2, nf3, nf4]
    refine st_mv (.bool false) ?_
    simp only [nf0, nf1, nf2, nf3, nf4]
    refine st_mv (.int .i64 0) ?_
    simp only [nf0, nf1, nf2, nf3, nf4]
    refine st_mv (.bool false) ?_
    simp only [nf0, nf1, nf2, nf3, nf4]
    refine wpList_nil ?_
    show Code.wp _ _ _ _ _
    refine wp_seq ?_
    refine wp_region_lit ?_
    refine st_mv (.bool false) ?_
    simp only [nf0, nf1, nf2, nf3, nf4]
    refine st_value (v := (.bool true)) (by rfl) (run_not (.tmp 92) rfl (b := false) rfl w28) ?_
    simp only [nf0, nf1, nf2, nf3, nf4]
    refine st_mv (.bool true) ?_
    simp only [nf0, nf1, nf2, nf3, nf4]
    refine st_mv (.pointer (some ⟨r2, 0, none⟩)) ?_
    simp only [nf0, nf1, nf2, nf3, nf4]
    refine st_call1 (v := (.int .i64 ((((xs.take 100).drop i).length : Nat) : Int))) (by rfl) (f0_run_call_8_1 (.tmp 95) rfl rfl _) (len_rg R27) ?_
    intro w30 hb31
    simp only [nf0, nf1, nf2, nf3, nf4]
    replace R27 := R27.below hb31
    replace bel := bl_step bel hb31
    clear hb31
    refine st_value (v := (.bool true)) (by rfl) (run_eql_int_t (.tmp 96) (.const (.int .i64 0)) rfl rfl rfl (by omega) w30) ?_
    simp only [nf0, nf1, nf2, nf3, nf4]
    refine st_mv (.bool true) ?_
    simp only [nf0, nf1, nf2, nf3, nf4]
    refine st_mv (.bool true) ?_
    simp only [nf0, nf1, nf2, nf3, nf4]
    refine st_call1 (v := (.bool true)) (by rfl) (f0_run_call_12_0  rfl  _) (lives_calls w30) ?_
    intro w32 hb33
    simp only [nf0, nf1, nf2, nf3, nf4]
    replace R27 := R27.below hb33
    replace bel := bl_step bel hb33
    clear hb33
    refine st_mv (.bool true) ?_
    simp only [nf0, nf1, nf2, nf3, nf4]
    refine st_mv (.bool true) ?_
    simp only [nf0, nf1, nf2, nf3, nf4]
    refine wpList_nil ?_
    show Code.wp _ _ _ _ _
    refine wp_ret ?_
    first | show bodyPost _ _ _ _ _ _ | (simp only [Exit.then, Exit.inBlock]; show bodyPost _ _ _ _ _ _)
    exact bodyPost_ret (results_tmp rfl _ _ _) rfl ⟨rfl, bel⟩
  have hp34 := of_decide_eq_true hg25
  refine wp_cond_true rfl ?_
  refine wp_skip ?_
  show Code.wp _ _ _ _ _
  refine wp_seq ?_
  refine wp_block ?_
  refine wp_seq ?_
  refine wp_region_lit ?_
  refine st_mv (.int .i64 (i : Int)) ?_
  simp only [nf0, nf1, nf2, nf3, nf4]
  refine st_mv (.int .i64 (i : Int)) ?_
  simp only [nf0, nf1, nf2, nf3, nf4]
  refine wpList_nil ?_
  show Code.wp _ _ _ _ _
  refine wp_seq ?_
  refine wp_region_lit ?_
  refine st_mv (.pointer (some ⟨r2, 0, none⟩)) ?_
  simp only [nf0, nf1, nf2, nf3, nf4]
  refine st_call (by rfl) (f0_run_call_9_1 (.tmp 49) rfl rfl _) (first_yes R20 (by omega)) ?_
  rintro _ w36 ⟨rfl, R35, hf37⟩
  simp only [nf0, nf1, nf2, nf3, nf4]
  replace bel := bl_call bel hf37 (lo2 lo5 lo6)
  clear hf37
  clear R20
  refine st_mv (.tuple #[.int .i64 (nth ((xs.take 100).drop i) 0), .bool true]) ?_
  simp only [nf0, nf1, nf2, nf3, nf4]
  refine st_mv (.int .i64 (nth ((xs.take 100).drop i) 0)) ?_
  simp only [nf0, nf1, nf2, nf3, nf4]
  refine st_mv (.bool true) ?_
  simp only [nf0, nf1, nf2, nf3, nf4]
  refine st_mv (.int .i64 (nth ((xs.take 100).drop i) 0)) ?_
  simp only [nf0, nf1, nf2, nf3, nf4]
  refine st_mv (.bool true) ?_
  simp only [nf0, nf1, nf2, nf3, nf4]
  refine wpList_nil ?_
  show Code.wp _ _ _ _ _
  refine wp_seq ?_
  obtain ⟨b38, o39, rfl, _⟩ := (R1.same bel).at_ (by simp only [List.length_map]; omega)
  refine wp_region_lit ?_
  refine st_mv (.slice (some ⟨b38, o39, none⟩) (xs.take 100).length cap) ?_
  simp only [nf0, nf1, nf2, nf3, nf4]
  refine st_mv (.int .i64 (i : Int)) ?_
  simp only [nf0, nf1, nf2, nf3, nf4]
  refine st_value (v := (.pointer (some ⟨b38, o39 + i * 1, none⟩))) (by rfl) (run_indexAddrN (.tmp 53) (.tmp 54) rfl Try.underlying22 slInt.sz (i := i) rfl rfl (by omega) w36) ?_
  simp only [nf0, nf1, nf2, nf3, nf4]
  refine st_value (v := (.int .i64 (nth (xs.take 100) i))) (by rfl) (run_load1 (.tmp 55) rfl Try.underlying3 rfl slInt.sz rfl (Reads.intAt (R1.same bel) i (by omega))) ?_
  simp only [nf0, nf1, nf2, nf3, nf4]
  refine st_mv (.int .i64 (nth (xs.take 100) i)) ?_
  simp only [nf0, nf1, nf2, nf3, nf4]
  refine wpList_nil ?_
  show Code.wp _ _ _ _ _
  refine wp_seq ?_
  refine wp_seq ?_
  refine wp_region_lit ?_
  refine st_mv (.bool false) ?_
  simp only [nf0, nf1, nf2, nf3, nf4]
  refine wpList_nil ?_
  show Code.wp _ _ _ _ _
  refine wp_cond_false rfl ?_
  refine wp_skip ?_
  show Code.wp _ _ _ _ _
  refine wp_seq ?_
  refine wp_region_lit ?_
  refine st_mv (.bool true) ?_
  simp only [nf0, nf1, nf2, nf3, nf4]
  refine st_value (v := (.bool false)) (by rfl) (run_not (.tmp 79) rfl (b := true) rfl w36) ?_
  simp only [nf0, nf1, nf2, nf3, nf4]
  refine st_mv (.bool false) ?_
  simp only [nf0, nf1, nf2, nf3, nf4]
  refine st_mv (.int .i64 (nth ((xs.take 100).drop i) 0)) ?_
  simp only [nf0, nf1, nf2, nf3, nf4]
  refine st_mv (.int .i64 (nth (xs.take 100) i)) ?_
  simp only [nf0, nf1, nf2, nf3, nf4]
  refine st_value (v := (.bool false)) (by rfl) (run_neq_int_t (.tmp 82) (.tmp 83) rfl rfl rfl (nth_dropz _ _) w36) ?_
  simp only [nf0, nf1, nf2, nf3, nf4]
  refine st_mv (.bool false) ?_
  simp only [nf0, nf1, nf2, nf3, nf4]
  refine wpList_nil ?_
  show Code.wp _ _ _ _ _
  refine wp_cond_false rfl ?_
  refine wp_skip ?_
  show Code.wp _ _ _ _ _
  refine wp_region_lit ?_
  refine st_value (v := (.int .i64 ((i : Int) + 1))) (by rfl) (run_add_in (.tmp 45) (.const (.int .i64 1)) rfl rfl rfl (by omega) w36) ?_
  simp only [nf0, nf1, nf2, nf3, nf4]
  refine st_mv (.int .i64 ((i : Int) + 1)) ?_
  simp only [nf0, nf1, nf2, nf3, nf4]
  refine wpList_nil ?_
  show ∃ m, m < _ ∧ _
  exact ⟨_, (by omega), (i + 1), rfl, rfl, (by have h := R35; rw [wo_drop] at h; exact h), bel, (by omega)⟩
set_option maxRecDepth 100000 in
set_option maxHeartbeats 4000000 in
theorem ringEnds_back (A : Option Addr) (xs : List Int) (cap : Nat) (hcap : xs.length ≤ cap) (w : World) (hr : Reads w A (xs.map (Value.int .i64))) :
    Calls Try.prog 4 #[.slice A xs.length cap, .bool true] w fun e w' => e = .returned (.bool true) ∧ Below w.heap.size w w' := by
  have bel : Below w.heap.size w w := Below.refl _ _
  have hl1 := len_take100 xs
  go_enter Try.func4, Try.ntmps4
  refine wp_seq ?_
  refine wp_region_lit ?_
  refine st_mv (.bool false) ?_
  simp only [nf0, nf1, nf2, nf3, nf4]
  refine wpList_nil ?_
  show Code.wp _ _ _ _ _
  refine wp_seq ?_
  refine wp_region_lit ?_
  refine st_mv (.slice A xs.length cap) ?_
  simp only [nf0, nf1, nf2, nf3, nf4]
  refine st_mv (.slice A xs.length cap) ?_
  simp only [nf0, nf1, nf2, nf3, nf4]
  refine st_value (v := (.int .i64 (xs.length : Int))) (by rfl) (run_len (.tmp 15) rfl ⟨_, Try.underlying22⟩ rfl w) ?_
  simp only [nf0, nf1, nf2, nf3, nf4]
  refine st_value (v := (.int .i64 (min (xs.length : Int) 100))) (by rfl) (run_min2 (.tmp 16) (.const (.int .i64 100)) rfl rfl rfl w) ?_
  simp only [nf0, nf1, nf2, nf3, nf4]
  have R1 := hr.takeI 100
  refine st_value (v := (.slice A (xs.take 100).length cap)) (by rfl) (run_cut_take (.tmp 14) (.tmp 17) rfl Try.underlying22 slInt.sz rfl 100 rfl rfl hcap w) ?_
  simp only [nf0, nf1, nf2, nf3, nf4]
  refine st_mv (.slice A (xs.take 100).length cap) ?_
  simp only [nf0, nf1, nf2, nf3, nf4]
  refine wpList_nil ?_
  show Code.wp _ _ _ _ _
  refine wp_seq ?_
  refine wp_region_lit ?_
  refine st_mv (.slice A (xs.take 100).length cap) ?_
  simp only [nf0, nf1, nf2, nf3, nf4]
  refine st_value (v := (.int .i64 ((xs.take 100).length : Int))) (by rfl) (run_len (.tmp 19) rfl ⟨_, Try.underlying22⟩ rfl w) ?_
  simp only [nf0, nf1, nf2, nf3, nf4]
  refine st_call (by rfl) (f1_run_call_7_1 (.tmp 20) rfl rfl _) (new_calls (X := ((xs.take 100).length : Int)) (N := ((xs.take 100).length)) (by omega) w) ?_
  rintro _ w8 ⟨r2, b3, rfl, R4, lo5, lo6, hf9⟩
  simp only [nf0, nf1, nf2, nf3, nf4]
  replace lo5 := low_le bel lo5
  replace lo6 := low_le bel lo6
  replace bel := bl_step bel hf9
  clear hf9
  have ne7 : r2 ≠ b3 := Rg.nerb R4
  refine st_mv (.pointer (some ⟨r2, 0, none⟩)) ?_
  simp only [nf0, nf1, nf2, nf3, nf4]
  refine wpList_nil ?_
  show Code.wp _ _ _ _ _
  refine wp_seq ?_
  refine wp_seq ?_
  refine wp_region_lit ?_
  refine st_mv (.slice A (xs.take 100).length cap) ?_
  simp only [nf0, nf1, nf2, nf3, nf4]
  refine st_value (v := (.int .i64 ((xs.take 100).length : Int))) (by rfl) (run_len (.tmp 22) rfl ⟨_, Try.underlying22⟩ rfl w8) ?_
  simp only [nf0, nf1, nf2, nf3, nf4]
  refine st_mv (.int .i64 0) ?_
  simp only [nf0, nf1, nf2, nf3, nf4]
  refine wpList_nil ?_
  show Code.wp _ _ _ _ _
  refine wp_block ?_
  refine wp_loop_left (fun n_ a_ wr_ => (fun J10 => ∃ (k : Nat), n_ = (xs.take 100).length - k ∧ a_ = ⟨#[.slice A (xs.take 100).length cap, .bool true, J10 2, J10 3, J10 4, .pointer (some ⟨r2, 0, none⟩), J10 6, J10 7, J10 8, J10 9, J10 10, J10 11, J10 12, J10 13, J10 14, J10 15, J10 16, J10 17, J10 18, J10 19, J10 20, J10 21, .slice A (xs.take 100).length cap, .int .i64 ((xs.take 100).length : Int), .int .i64 (k : Int), J10 25, J10 26, J10 27, J10 28, J10 29, J10 30, J10 31, J10 32, J10 33, J10 34, J10 35, J10 36, J10 37, J10 38, J10 39, J10 40, J10 41, J10 42, J10 43, undef, J10 45, J10 46, J10 47, J10 48, J10 49, J10 50, J10 51, J10 52, J10 53, J10 54, J10 55, J10 56, J10 57, J10 58, J10 59, J10 60, J10 61, J10 62, J10 63, J10 64, J10 65, J10 66, J10 67, J10 68, J10 69, J10 70, J10 71, J10 72, J10 73, J10 74, J10 75, J10 76, J10 77, J10 78, J10 79, J10 80, J10 81, J10 82, J10 83, J10 84, J10 85, J10 86, J10 87, J10 88, J10 89, J10 90, J10 91, J10 92, J10 93, J10 94, J10 95, J10 96, J10 97, J10 98, J10 99, J10 100, J10 101], []⟩ ∧ Rg wr_ r2 b3 ((xs.take 100).length) ((xs.take 100).take k) ∧ Below w.heap.size w wr_ ∧ (k ≤ (xs.take 100).length)) (jk a_)) ((xs.take 100).length - 0) ⟨0, rfl, rfl, (by rw [List.take_zero]; exact R4), bel, Nat.zero_le _⟩ ?_
  clear R4
  clear bel
  intro n_ a_ w11 h_
  revert h_
  generalize jk a_ = J10
  rintro ⟨k, hms, rfl, R4, bel, hk⟩
  refine wp_seq ?_
  refine wp_region_lit ?_
  refine st_value (v := (.bool (decide ((k : Int) < ((xs.take 100).length : Int))))) (by rfl) (run_lss (.tmp 24) (.tmp 23) rfl rfl rfl w11) ?_
  simp only [nf0, nf1, nf2, nf3, nf4]
  refine wpList_nil ?_
  show Code.wp _ _ _ _ _
  refine wp_seq ?_
  cases hg12 : decide ((k : Int) < ((xs.take 100).length : Int))
  rotate_left
  · have hp46 := of_decide_eq_true hg12
    refine wp_cond_true rfl ?_
    refine wp_skip ?_
    show Code.wp _ _ _ _ _
    refine wp_seq ?_
    refine wp_block ?_
    refine wp_seq ?_
    obtain ⟨b47, o48, rfl, _⟩ := (R1.same bel).at_ (by simp only [List.length_map]; omega)
    have hlk : ((xs.take 100).take k).length = k := by rw [List.length_take]; omega
    refine wp_region_lit ?_
    refine st_value (v := (.pointer (some ⟨b47, o48 + k * 1, none⟩))) (by rfl) (run_indexAddrN (.tmp 22) (.tmp 24) rfl Try.underlying22 slInt.sz (i := k) rfl rfl (by omega) w11) ?_
    simp only [nf0, nf1, nf2, nf3, nf4]
    refine st_value (v := (.int .i64 (nth (xs.take 100) k))) (by rfl) (run_load1 (.tmp 26) rfl Try.underlying3 rfl slInt.sz rfl (Reads.intAt (R1.same bel) k (by omega))) ?_
    simp only [nf0, nf1, nf2, nf3, nf4]
    refine st_mv (.int .i64 (nth (xs.take 100) k)) ?_
    simp only [nf0, nf1, nf2, nf3, nf4]
    refine wpList_nil ?_
    show Code.wp _ _ _ _ _
    refine wp_seq ?_
    refine wp_region_lit ?_
    refine st_mv (.pointer (some ⟨r2, 0, none⟩)) ?_
    simp only [nf0, nf1, nf2, nf3, nf4]
    refine st_mv (.int .i64 (nth (xs.take 100) k)) ?_
    simp only [nf0, nf1, nf2, nf3, nf4]
    refine st_call (by rfl) (f1_run_call_10_2 (.tmp 28) (.tmp 29) rfl rfl rfl _) (back_yes R4 (by omega) (nth (xs.take 100) k)) ?_
    rintro _ w50 ⟨rfl, R49, hf51⟩
    simp only [nf0, nf1, nf2, nf3, nf4]
    replace bel := bl_call bel hf51 (lo2 lo5 lo6)
    clear hf51
    clear R4
    refine st_value (v := (.bool false)) (by rfl) (run_not (.tmp 30) rfl (b := true) rfl w50) ?_
    simp only [nf0, nf1, nf2, nf3, nf4]
    refine wpList_nil ?_
    show Code.wp _ _ _ _ _
    refine wp_cond_false rfl ?_
    refine wp_skip ?_
    show Code.wp _ _ _ _ _
    refine wp_region_lit ?_
    refine st_value (v := (.int .i64 ((k : Int) + 1))) (by rfl) (run_add_in (.tmp 24) (.const (.int .i64 1)) rfl rfl rfl (by omega) w50) ?_
    simp only [nf0, nf1, nf2, nf3, nf4]
    refine st_mv (.int .i64 ((k : Int) + 1)) ?_
    simp only [nf0, nf1, nf2, nf3, nf4]
    refine wpList_nil ?_
    show ∃ m, m < _ ∧ _
    exact ⟨_, (by omega), (k + 1), rfl, rfl, (by rw [take_nth (l := (xs.take 100)) (k := k) (by omega)]; exact R49), bel, (by omega)⟩
  have hp13 := of_decide_eq_false hg12
  refine wp_cond_false rfl ?_
  refine wp_exit ?_
  show Code.wp _ _ _ _ _
  refine wp_seq ?_
  refine wp_seq ?_
  have hkk : k = (xs.take 100).length := by omega
  replace R4 : Rg w11 r2 b3 ((xs.take 100).length) (xs.take 100) := (by have := R4; rw [hkk, List.take_length] at this; exact this)
  refine wp_region_lit ?_
  refine st_mv (.pointer (some ⟨r2, 0, none⟩)) ?_
  simp only [nf0, nf1, nf2, nf3, nf4]
  refine st_call (by rfl) (f1_run_call_10_2 (.tmp 33) (.const (.int .i64 0)) rfl rfl rfl _) (back_no R4 (by omega) 0) ?_
  rintro _ w15 ⟨rfl, R14, hf16⟩
  simp only [nf0, nf1, nf2, nf3, nf4]
  replace bel := bl_call bel hf16 (lo2 lo5 lo6)
  clear hf16
  clear R4
  refine st_mv (.bool false) ?_
  simp only [nf0, nf1, nf2, nf3, nf4]
  refine st_mv (.pointer (some ⟨r2, 0, none⟩)) ?_
  simp only [nf0, nf1, nf2, nf3, nf4]
  refine st_call (by rfl) (f1_run_call_13_2 (.tmp 36) (.const (.int .i64 0)) rfl rfl rfl _) (front_no R14 (by omega) 0) ?_
  rintro _ w18 ⟨rfl, R17, hf19⟩
  simp only [nf0, nf1, nf2, nf3, nf4]
  replace bel := bl_call bel hf19 (lo2 lo5 lo6)
  clear hf19
  clear R14
  refine st_mv (.bool false) ?_
  simp only [nf0, nf1, nf2, nf3, nf4]
  refine st_mv (.bool false) ?_
  simp only [nf0, nf1, nf2, nf3, nf4]
  refine st_mv (.pointer (some ⟨r2, 0, none⟩)) ?_
  simp only [nf0, nf1, nf2, nf3, nf4]
  refine st_call (by rfl) (f1_run_call_14_3 (.tmp 40) (.const (.int .i64 0)) (.const (.int .i64 0)) rfl rfl rfl rfl _) (put_no R17 (i := 0) (by omega) 0) ?_
  rintro _ w21 ⟨rfl, R20, hf22⟩
  simp only [nf0, nf1, nf2, nf3, nf4]
  replace bel := bl_call bel hf22 (lo2 lo5 lo6)
  clear hf22
  clear R17
  refine st_mv (.bool false) ?_
  simp only [nf0, nf1, nf2, nf3, nf4]
  refine wpList_nil ?_
  show Code.wp _ _ _ _ _
  refine wp_cond_false rfl ?_
  refine wp_skip ?_
  show Code.wp _ _ _ _ _
  refine wp_seq ?_
  refine wp_seq ?_
  refine wp_region_lit ?_
  refine st_mv (.slice A (xs.take 100).length cap) ?_
  simp only [nf0, nf1, nf2, nf3, nf4]
  refine st_value (v := (.int .i64 ((xs.take 100).length : Int))) (by rfl) (run_len (.tmp 43) rfl ⟨_, Try.underlying22⟩ rfl w21) ?_
  simp only [nf0, nf1, nf2, nf3, nf4]
  refine st_mv (.int .i64 0) ?_
  simp only [nf0, nf1, nf2, nf3, nf4]
  refine wpList_nil ?_
  show Code.wp _ _ _ _ _
  refine wp_block ?_
  refine wp_loop_left (fun n_ a_ wr_ => (fun J23 => ∃ (i : Nat), n_ = (xs.take 100).length - i ∧ a_ = ⟨#[.slice A (xs.take 100).length cap, .bool true, J23 2, J23 3, J23 4, .pointer (some ⟨r2, 0, none⟩), J23 6, J23 7, J23 8, J23 9, J23 10, J23 11, J23 12, J23 13, J23 14, J23 15, J23 16, J23 17, J23 18, J23 19, J23 20, J23 21, .slice A (xs.take 100).length cap, .int .i64 ((xs.take 100).length : Int), J23 24, J23 25, J23 26, J23 27, J23 28, J23 29, J23 30, J23 31, J23 32, J23 33, J23 34, J23 35, J23 36, J23 37, J23 38, J23 39, J23 40, J23 41, J23 42, J23 43, .int .i64 ((xs.take 100).length : Int), .int .i64 (i : Int), J23 46, J23 47, J23 48, J23 49, J23 50, J23 51, J23 52, J23 53, J23 54, J23 55, J23 56, J23 57, J23 58, J23 59, J23 60, J23 61, J23 62, J23 63, J23 64, J23 65, J23 66, J23 67, J23 68, J23 69, J23 70, J23 71, J23 72, J23 73, J23 74, J23 75, J23 76, J23 77, J23 78, J23 79, J23 80, J23 81, J23 82, J23 83, J23 84, J23 85, J23 86, J23 87, J23 88, J23 89, J23 90, J23 91, J23 92, J23 93, J23 94, J23 95, J23 96, J23 97, J23 98, J23 99, J23 100, J23 101], []⟩ ∧ Rg wr_ r2 b3 ((xs.take 100).length) ((xs.take 100).take ((xs.take 100).length - i)) ∧ Below w.heap.size w wr_ ∧ (i ≤ (xs.take 100).length)) (jk a_)) ((xs.take 100).length - 0) ⟨0, rfl, rfl, (by rw [Nat.sub_zero, List.take_length]; exact R20), bel, Nat.zero_le _⟩ ?_
  clear R20
  clear bel
  intro n_ a_ w24 h_
  revert h_
  generalize jk a_ = J23
  rintro ⟨i, hms, rfl, R20, bel, hi⟩
  have hti : ((xs.take 100).take ((xs.take 100).length - i)).length = (xs.take 100).length - i := by rw [List.length_take]; omega
  refine wp_seq ?_
  refine wp_region_lit ?_
  refine st_value (v := (.bool (decide ((i : Int) < ((xs.take 100).length : Int))))) (by rfl) (run_lss (.tmp 45) (.tmp 44) rfl rfl rfl w24) ?_
  simp only [nf0, nf1, nf2, nf3, nf4]
  refine wpList_nil ?_
  show Code.wp _ _ _ _ _
  refine wp_seq ?_
  cases hg25 : decide ((i : Int) < ((xs.take 100).length : Int))
  · have hp26 := of_decide_eq_false hg25
    refine wp_cond_false rfl ?_
    refine wp_exit ?_
    show Code.wp _ _ _ _ _
    refine wp_seq ?_
    have hti : ((xs.take 100).take ((xs.take 100).length - i)).length = (xs.take 100).length - i := by rw [List.length_take]; omega
    refine wp_region_lit ?_
    refine st_mv (.pointer (some ⟨r2, 0, none⟩)) ?_
    simp only [nf0, nf1, nf2, nf3, nf4]
    refine st_call (by rfl) (f1_run_call_9_1 (.tmp 88) rfl rfl _) (first_no R20 (by omega)) ?_
    rintro _ w28 ⟨rfl, R27, hf29⟩
    simp only [nf0, nf1, nf2, nf3, nf4]
    replace bel := bl_call bel hf29 (lo2 lo5 lo6)
    clear hf29
    clear R20
    refine st_mv (.tuple #[.int .i64 0, .bool false]) ?_
    simp only [nf0, nf1, nf2, nf3, nf4]
    refine st_mv (.int .i64 0) ?_
    simp only [nf0, nf1, nf2, nf3, nf4]
    refine st_mv (.bool false) ?_
    simp only [nf0, nf1, nf2, nf3, nf4]
    refine st_mv (.int .i64 0) ?_
    simp only [nf0, nf1, nf2, nf3, nf4]
    refine st_mv (.bool false) ?_
    simp only [nf0, nf1, nf2, nf3, nf4]
    refine wpList_nil ?_
    show Code.wp _ _ _ _ _
    refine wp_seq ?_
    refine wp_region_lit ?_
    refine st_mv (.bool false) ?_
    simp only [nf0, nf1, nf2, nf3, nf4]
    refine st_value (v := (.bool true)) (by rfl) (run_not (.tmp 92) rfl (b := false) rfl w28) ?_
    simp only [nf0, nf1, nf2, nf3, nf4]
    refine st_mv (.bool true) ?_
    simp only [nf0, nf1, nf2, nf3, nf4]
    refine st_mv (.pointer (some ⟨r2, 0, none⟩)) ?_
    simp only [nf0, nf1, nf2, nf3, nf4]
    refine st_call1 (v := (.int .i64 ((((xs.take 100).take ((xs.take 100).length - i)).length : Nat) : Int))) (by rfl) (f1_run_call_8_1 (.tmp 95) rfl rfl _) (len_rg R27) ?_
    intro w30 hb31
    simp only [nf0, nf1, nf2, nf3, nf4]
    replace R27 := R27.below hb31
    replace bel := bl_step bel hb31
    clear hb31
    refine st_value (v := (.bool true)) (by rfl) (run_eql_int_t (.tmp 96) (.const (.int .i64 0)) rfl rfl rfl (by omega) w30) ?_
    simp only [nf0, nf1, nf2, nf3, nf4]
    refine st_mv (.bool true) ?_
    simp only [nf0, nf1, nf2, nf3, nf4]
    refine st_mv (.bool true) ?_
    simp only [nf0, nf1, nf2, nf3, nf4]
    refine st_call1 (v := (.bool true)) (by rfl) (f1_run_call_12_0  rfl  _) (lives_calls w30) ?_
    intro w32 hb33
    simp only [nf0, nf1, nf2, nf3, nf4]
    replace R27 := R27.below hb33
    replace bel := bl_step bel hb33
    clear hb33
    refine st_mv (.bool true) ?_
    simp only [nf0, nf1, nf2, nf3, nf4]
    refine st_mv (.bool true) ?_
    simp only [nf0, nf1, nf2, nf3, nf4]
    refine wpList_nil ?_
    show Code.wp _ _ _ _ _
    refine wp_ret ?_
    first | show bodyPost _ _ _ _ _ _ | (simp only [Exit.then, Exit.inBlock]; show bodyPost _ _ _ _ _ _)
    exact bodyPost_ret (results_tmp rfl _ _ _) rfl ⟨rfl, bel⟩
  have hp34 := of_decide_eq_true hg25
  refine wp_cond_true rfl ?_
  refine wp_skip ?_
  show Code.wp _ _ _ _ _
  refine wp_seq ?_
  refine wp_block ?_
  refine wp_seq ?_
  refine wp_region_lit ?_
  refine st_mv (.int .i64 (i : Int)) ?_
  simp only [nf0, nf1, nf2, nf3, nf4]
  refine st_mv (.int .i64 (i : Int)) ?_
  simp only [nf0, nf1, nf2, nf3, nf4]
  refine wpList_nil ?_
  show Code.wp _ _ _ _ _
  refine wp_seq ?_
  refine wp_region_lit ?_
  refine st_mv (.pointer (some ⟨r2, 0, none⟩)) ?_
  simp only [nf0, nf1, nf2, nf3, nf4]
  refine st_call (by rfl) (f1_run_call_9_1 (.tmp 49) rfl rfl _) (first_yes R20 (by omega)) ?_
  rintro _ w36 ⟨rfl, R35, hf37⟩
  simp only [nf0, nf1, nf2, nf3, nf4]
  replace bel := bl_call bel hf37 (lo2 lo5 lo6)
  clear hf37
  clear R20
  refine st_mv (.tuple #[.int .i64 (nth ((xs.take 100).take ((xs.take 100).length - i)) 0), .bool true]) ?_
  simp only [nf0, nf1, nf2, nf3, nf4]
  refine st_mv (.int .i64 (nth ((xs.take 100).take ((xs.take 100).length - i)) 0)) ?_
  simp only [nf0, nf1, nf2, nf3, nf4]
  refine st_mv (.bool true) ?_
  simp only [nf0, nf1, nf2, nf3, nf4]
  refine st_mv (.int .i64 (nth ((xs.take 100).take ((xs.take 100).length - i)) 0)) ?_
  simp only [nf0, nf1, nf2, nf3, nf4]
  refine st_mv (.bool true) ?_
  simp only [nf0, nf1, nf2, nf3, nf4]
  refine wpList_nil ?_
  show Code.wp _ _ _ _ _
  refine wp_seq ?_
  obtain ⟨b38, o39, rfl, _⟩ := (R1.same bel).at_ (by simp only [List.length_map]; omega)
  refine wp_region_lit ?_
  refine st_mv (.slice (some ⟨b38, o39, none⟩) (xs.take 100).length cap) ?_
  simp only [nf0, nf1, nf2, nf3, nf4]
  refine st_mv (.int .i64 (i : Int)) ?_
  simp only [nf0, nf1, nf2, nf3, nf4]
  refine st_value (v := (.pointer (some ⟨b38, o39 + i * 1, none⟩))) (by rfl) (run_indexAddrN (.tmp 53) (.tmp 54) rfl Try.underlying22 slInt.sz (i := i) rfl rfl (by omega) w36) ?_
  simp only [nf0, nf1, nf2, nf3, nf4]
  refine st_value (v := (.int .i64 (nth (xs.take 100) i))) (by rfl) (run_load1 (.tmp 55) rfl Try.underlying3 rfl slInt.sz rfl (Reads.intAt (R1.same bel) i (by omega))) ?_
  simp only [nf0, nf1, nf2, nf3, nf4]
  refine st_mv (.int .i64 (nth (xs.take 100) i)) ?_
  simp only [nf0, nf1, nf2, nf3, nf4]
  refine wpList_nil ?_
  show Code.wp _ _ _ _ _
  refine wp_seq ?_
  refine wp_seq ?_
  refine wp_region_lit ?_
  refine st_mv (.bool true) ?_
  simp only [nf0, nf1, nf2, nf3, nf4]
  refine wpList_nil ?_
  show Code.wp _ _ _ _ _
  refine wp_cond_true rfl ?_
  refine wp_seq ?_
  refine wp_seq ?_
  have hw0 : (wo ((xs.take 100).take ((xs.take 100).length - i)) 0).length = (xs.take 100).length - i - 1 := by rw [wo_length (by omega), hti]
  refine wp_region_lit ?_
  refine st_mv (.bool true) ?_
  simp only [nf0, nf1, nf2, nf3, nf4]
  refine st_value (v := (.bool false)) (by rfl) (run_not (.tmp 58) rfl (b := true) rfl w36) ?_
  simp only [nf0, nf1, nf2, nf3, nf4]
  refine st_mv (.bool false) ?_
  simp only [nf0, nf1, nf2, nf3, nf4]
  refine st_mv (.pointer (some ⟨r2, 0, none⟩)) ?_
  simp only [nf0, nf1, nf2, nf3, nf4]
  refine st_mv (.int .i64 (nth ((xs.take 100).take ((xs.take 100).length - i)) 0)) ?_
  simp only [nf0, nf1, nf2, nf3, nf4]
  refine st_call (by rfl) (f1_run_call_13_2 (.tmp 61) (.tmp 62) rfl rfl rfl _) (front_yes R35 (by omega) (nth ((xs.take 100).take ((xs.take 100).length - i)) 0)) ?_
  rintro _ w41 ⟨rfl, R40, hf42⟩
  simp only [nf0, nf1, nf2, nf3, nf4]
  replace bel := bl_call bel hf42 (lo2 lo5 lo6)
  clear hf42
  clear R35
  refine st_value (v := (.bool false)) (by rfl) (run_not (.tmp 63) rfl (b := true) rfl w41) ?_
  simp only [nf0, nf1, nf2, nf3, nf4]
  refine st_mv (.bool false) ?_
  simp only [nf0, nf1, nf2, nf3, nf4]
  refine wpList_nil ?_
  show Code.wp _ _ _ _ _
  refine wp_cond_false rfl ?_
  refine wp_skip ?_
  show Code.wp _ _ _ _ _
  refine wp_seq ?_
  replace R40 : Rg w41 r2 b3 ((xs.take 100).length) ((xs.take 100).take ((xs.take 100).length - i)) := (by have h := R40; rw [cons_wo (by omega)] at h; exact h)
  refine wp_region_lit ?_
  refine st_mv (.pointer (some ⟨r2, 0, none⟩)) ?_
  simp only [nf0, nf1, nf2, nf3, nf4]
  refine st_call (by rfl) (f1_run_call_15_1 (.tmp 67) rfl rfl _) (last_yes R40 (by omega)) ?_
  rintro _ w44 ⟨rfl, R43, hf45⟩
  simp only [nf0, nf1, nf2, nf3, nf4]
  replace bel := bl_call bel hf45 (lo2 lo5 lo6)
  clear hf45
  clear R40
  refine st_mv (.tuple #[.int .i64 (nth ((xs.take 100).take ((xs.take 100).length - i)) (((xs.take 100).take ((xs.take 100).length - i)).length - 1)), .bool true]) ?_
  simp only [nf0, nf1, nf2, nf3, nf4]
  refine st_mv (.int .i64 (nth ((xs.take 100).take ((xs.take 100).length - i)) (((xs.take 100).take ((xs.take 100).length - i)).length - 1))) ?_
  simp only [nf0, nf1, nf2, nf3, nf4]
  refine st_mv (.bool true) ?_
  simp only [nf0, nf1, nf2, nf3, nf4]
  refine st_mv (.int .i64 (nth ((xs.take 100).take ((xs.take 100).length - i)) (((xs.take 100).take ((xs.take 100).length - i)).length - 1))) ?_
  simp only [nf0, nf1, nf2, nf3, nf4]
  refine st_mv (.bool true) ?_
  simp only [nf0, nf1, nf2, nf3, nf4]
  refine wpList_nil ?_
  show Code.wp _ _ _ _ _
  refine wp_region_lit ?_
  refine st_mv (.slice (some ⟨b38, o39, none⟩) (xs.take 100).length cap) ?_
  simp only [nf0, nf1, nf2, nf3, nf4]
  refine st_mv (.slice (some ⟨b38, o39, none⟩) (xs.take 100).length cap) ?_
  simp only [nf0, nf1, nf2, nf3, nf4]
  refine st_value (v := (.int .i64 ((xs.take 100).length : Int))) (by rfl) (run_len (.tmp 72) rfl ⟨_, Try.underlying22⟩ rfl w44) ?_
  simp only [nf0, nf1, nf2, nf3, nf4]
  refine st_value (v := (.int .i64 (((xs.take 100).length : Int) - 1))) (by rfl) (run_sub_in (.tmp 73) (.const (.int .i64 1)) rfl rfl rfl (by omega) w44) ?_
  simp only [nf0, nf1, nf2, nf3, nf4]
  refine st_mv (.int .i64 (i : Int)) ?_
  simp only [nf0, nf1, nf2, nf3, nf4]
  refine st_value (v := (.int .i64 ((((xs.take 100).length : Int) - 1) - (i : Int)))) (by rfl) (run_sub_in (.tmp 74) (.tmp 75) rfl rfl rfl (by omega) w44) ?_
  simp only [nf0, nf1, nf2, nf3, nf4]
  refine st_value (v := (.pointer (some ⟨b38, o39 + ((((xs.take 100).length) - 1) - i) * 1, none⟩))) (by rfl) (run_indexAddrN (.tmp 71) (.tmp 76) rfl Try.underlying22 slInt.sz (i := ((((xs.take 100).length) - 1) - i)) rfl (by exact (congrArg (Value.int .i64) (show ((((xs.take 100).length : Int) - 1) - (i : Int)) = (((((xs.take 100).length) - 1) - i : Nat) : Int) by omega))) (by omega) w44) ?_
  simp only [nf0, nf1, nf2, nf3, nf4]
  refine st_value (v := (.int .i64 (nth (xs.take 100) ((((xs.take 100).length) - 1) - i)))) (by rfl) (run_load1 (.tmp 77) rfl Try.underlying3 rfl slInt.sz rfl (Reads.intAt (R1.same bel) ((((xs.take 100).length) - 1) - i) (by omega))) ?_
  simp only [nf0, nf1, nf2, nf3, nf4]
  refine st_mv (.int .i64 (nth (xs.take 100) ((((xs.take 100).length) - 1) - i))) ?_
  simp only [nf0, nf1, nf2, nf3, nf4]
  refine wpList_nil ?_
  show Code.wp _ _ _ _ _
  refine wp_seq ?_
  refine wp_region_lit ?_
  refine st_mv (.bool true) ?_
  simp only [nf0, nf1, nf2, nf3, nf4]
  refine st_value (v := (.bool false)) (by rfl) (run_not (.tmp 79) rfl (b := true) rfl w44) ?_
  simp only [nf0, nf1, nf2, nf3, nf4]
  refine st_mv (.bool false) ?_
  simp only [nf0, nf1, nf2, nf3, nf4]
  refine st_mv (.int .i64 (nth ((xs.take 100).take ((xs.take 100).length - i)) (((xs.take 100).take ((xs.take 100).length - i)).length - 1))) ?_
  simp only [nf0, nf1, nf2, nf3, nf4]
  refine st_mv (.int .i64 (nth (xs.take 100) ((((xs.take 100).length) - 1) - i))) ?_
  simp only [nf0, nf1, nf2, nf3, nf4]
  refine st_value (v := (.bool false)) (by rfl) (run_neq_int_t (.tmp 82) (.tmp 83) rfl rfl rfl ((nth_takel (by omega) (by omega)).trans (by congr 1; omega)) w44) ?_
  simp only [nf0, nf1, nf2, nf3, nf4]
  refine st_mv (.bool false) ?_
  simp only [nf0, nf1, nf2, nf3, nf4]
  refine wpList_nil ?_
  show Code.wp _ _ _ _ _
  refine wp_cond_false rfl ?_
  refine wp_skip ?_
  show Code.wp _ _ _ _ _
  refine wp_region_lit ?_
  refine st_value (v := (.int .i64 ((i : Int) + 1))) (by rfl) (run_add_in (.tmp 45) (.const (.int .i64 1)) rfl rfl rfl (by omega) w44) ?_
  simp only [nf0, nf1, nf2, nf3, nf4]
  refine st_mv (.int .i64 ((i : Int) + 1)) ?_
  simp only [nf0, nf1, nf2, nf3, nf4]
  refine wpList_nil ?_
  show ∃ m, m < _ ∧ _
  exact ⟨_, (by omega), (i + 1), rfl, rfl, (by have h := R43; rw [wo_take (by omega)] at h; rw [show (xs.take 100).length - (i + 1) = (xs.take 100).length - i - 1 by omega]; exact h), bel, (by omega)⟩
end Go.Proofs.Ytdhhcjhinpmeeaa
