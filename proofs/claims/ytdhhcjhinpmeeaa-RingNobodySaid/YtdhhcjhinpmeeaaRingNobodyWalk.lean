/- What the law RingNobody does. -/
import Derived.Test.YtdhhcjhinpmeeaaRingLives
import Derived.Test.YtdhhcjhinpmeeaaRingAlike
namespace Go.Proofs.Ytdhhcjhinpmeeaa
open Go.RowKit Go.WideShapes Go.ChangeShapes
set_option linter.unusedSimpArgs false
set_option linter.unusedVariables false

theorem j_one_23 : One Try.prog 23 := one_of Try.underlying23 rfl (by kernel_rfl)
theorem j_run_call_7_1 {o : Oper} {a : Act} (x0 : Operand) {ts : Array TypeId} (ho : o.op = .call { callee := .value (.func 7), args := #[x0], argTypes := ts }) {v0 : Value} (h0 : a.eval x0 = v0) (W : World) : (execOp a.eval o).run Try.prog W = .ok (.enter 7 #[v0]) W := by
  unfold execOp
  simp only [ho]
  subst h0
  go_simp
theorem j_run_call_8_1 {o : Oper} {a : Act} (x0 : Operand) {ts : Array TypeId} (ho : o.op = .call { callee := .value (.func 8), args := #[x0], argTypes := ts }) {v0 : Value} (h0 : a.eval x0 = v0) (W : World) : (execOp a.eval o).run Try.prog W = .ok (.enter 8 #[v0]) W := by
  unfold execOp
  simp only [ho]
  subst h0
  go_simp
theorem j_run_call_9_1 {o : Oper} {a : Act} (x0 : Operand) {ts : Array TypeId} (ho : o.op = .call { callee := .value (.func 9), args := #[x0], argTypes := ts }) {v0 : Value} (h0 : a.eval x0 = v0) (W : World) : (execOp a.eval o).run Try.prog W = .ok (.enter 9 #[v0]) W := by
  unfold execOp
  simp only [ho]
  subst h0
  go_simp
theorem j_run_call_10_2 {o : Oper} {a : Act} (x0 : Operand) (x1 : Operand) {ts : Array TypeId} (ho : o.op = .call { callee := .value (.func 10), args := #[x0, x1], argTypes := ts }) {v0 : Value} (h0 : a.eval x0 = v0) {v1 : Value} (h1 : a.eval x1 = v1) (W : World) : (execOp a.eval o).run Try.prog W = .ok (.enter 10 #[v0, v1]) W := by
  unfold execOp
  simp only [ho]
  subst h0 h1
  go_simp
theorem j_run_call_12_0 {o : Oper} {a : Act}  {ts : Array TypeId} (ho : o.op = .call { callee := .value (.func 12), args := #[], argTypes := ts })  (W : World) : (execOp a.eval o).run Try.prog W = .ok (.enter 12 #[]) W := by
  unfold execOp
  simp only [ho]
  go_simp
theorem j_run_call_13_2 {o : Oper} {a : Act} (x0 : Operand) (x1 : Operand) {ts : Array TypeId} (ho : o.op = .call { callee := .value (.func 13), args := #[x0, x1], argTypes := ts }) {v0 : Value} (h0 : a.eval x0 = v0) {v1 : Value} (h1 : a.eval x1 = v1) (W : World) : (execOp a.eval o).run Try.prog W = .ok (.enter 13 #[v0, v1]) W := by
  unfold execOp
  simp only [ho]
  subst h0 h1
  go_simp
theorem j_run_call_14_3 {o : Oper} {a : Act} (x0 : Operand) (x1 : Operand) (x2 : Operand) {ts : Array TypeId} (ho : o.op = .call { callee := .value (.func 14), args := #[x0, x1, x2], argTypes := ts }) {v0 : Value} (h0 : a.eval x0 = v0) {v1 : Value} (h1 : a.eval x1 = v1) {v2 : Value} (h2 : a.eval x2 = v2) (W : World) : (execOp a.eval o).run Try.prog W = .ok (.enter 14 #[v0, v1, v2]) W := by
  unfold execOp
  simp only [ho]
  subst h0 h1 h2
  go_simp
theorem j_run_call_15_1 {o : Oper} {a : Act} (x0 : Operand) {ts : Array TypeId} (ho : o.op = .call { callee := .value (.func 15), args := #[x0], argTypes := ts }) {v0 : Value} (h0 : a.eval x0 = v0) (W : World) : (execOp a.eval o).run Try.prog W = .ok (.enter 15 #[v0]) W := by
  unfold execOp
  simp only [ho]
  subst h0
  go_simp
theorem j_run_call_16_1 {o : Oper} {a : Act} (x0 : Operand) {ts : Array TypeId} (ho : o.op = .call { callee := .value (.func 16), args := #[x0], argTypes := ts }) {v0 : Value} (h0 : a.eval x0 = v0) (W : World) : (execOp a.eval o).run Try.prog W = .ok (.enter 16 #[v0]) W := by
  unfold execOp
  simp only [ho]
  subst h0
  go_simp
theorem j_run_call_19_3 {o : Oper} {a : Act} (x0 : Operand) (x1 : Operand) (x2 : Operand) {ts : Array TypeId} (ho : o.op = .call { callee := .value (.func 19), args := #[x0, x1, x2], argTypes := ts }) {v0 : Value} (h0 : a.eval x0 = v0) {v1 : Value} (h1 : a.eval x1 = v1) {v2 : Value} (h2 : a.eval x2 = v2) (W : World) : (execOp a.eval o).run Try.prog W = .ok (.enter 19 #[v0, v1, v2]) W := by
  unfold execOp
  simp only [ho]
  subst h0 h1 h2
  go_simp
theorem j_run_call_20_2 {o : Oper} {a : Act} (x0 : Operand) (x1 : Operand) {ts : Array TypeId} (ho : o.op = .call { callee := .value (.func 20), args := #[x0, x1], argTypes := ts }) {v0 : Value} (h0 : a.eval x0 = v0) {v1 : Value} (h1 : a.eval x1 = v1) (W : World) : (execOp a.eval o).run Try.prog W = .ok (.enter 20 #[v0, v1]) W := by
  unfold execOp
  simp only [ho]
  subst h0 h1
  go_simp
theorem j_run_call_21_2 {o : Oper} {a : Act} (x0 : Operand) (x1 : Operand) {ts : Array TypeId} (ho : o.op = .call { callee := .value (.func 21), args := #[x0, x1], argTypes := ts }) {v0 : Value} (h0 : a.eval x0 = v0) {v1 : Value} (h1 : a.eval x1 = v1) (W : World) : (execOp a.eval o).run Try.prog W = .ok (.enter 21 #[v0, v1]) W := by
  unfold execOp
  simp only [ho]
  subst h0 h1
  go_simp
theorem j_run_lit_45_3 {o : Oper} {a : Act} (x0 : Operand) (x1 : Operand) (x2 : Operand) (ho : o.op = .buildSlice 45 3 #[(0, x0), (1, x1), (2, x2)]) {m0 : Option Addr} (h0 : a.eval x0 = (.pointer m0)) {m1 : Option Addr} (h1 : a.eval x1 = (.pointer m1)) {m2 : Option Addr} (h2 : a.eval x2 = (.pointer m2)) (W : World) : (execOp a.eval o).run Try.prog W = .ok (.value (.slice (some ⟨W.heap.size, 0, none⟩) 3 3)) (W.alloc (.cells #[(.pointer m0), (.pointer m1), (.pointer m2)] 23)) := by
  unfold execOp
  simp only [ho, List.map_toArray, List.map_cons, List.map_nil, h0, h1, h2]
  go_simp

attribute [local irreducible] Go.wpList Go.Code.wp
set_option maxRecDepth 100000 in
set_option maxHeartbeats 4000000 in
theorem ringNobody_calls (i x : Int) (w : World) : Calls Try.prog 6 #[.int .i64 i, .int .i64 x] w fun e w' => e = .returned (.bool true) ∧ Below w.heap.size w w' := by
  have bel : Below w.heap.size w w := Below.refl _ _
  go_enter Try.func6, Try.ntmps6
  refine wp_seq ?_
  refine wp_region_lit ?_
  refine st_mv (.bool false) ?_
  simp only [nf0, nf1, nf2, nf3, nf4]
  refine wpList_nil ?_
  show Code.wp _ _ _ _ _
  refine wp_seq ?_
  refine wp_region_lit ?_
  refine st_mv (.pointer none) ?_
  simp only [nf0, nf1, nf2, nf3, nf4]
  refine wpList_nil ?_
  show Code.wp _ _ _ _ _
  refine wp_seq ?_
  refine wp_seq ?_
  refine wp_region_lit ?_
  refine st_mv (.pointer none) ?_
  simp only [nf0, nf1, nf2, nf3, nf4]
  refine st_call (by rfl) (j_run_call_7_1 (.const (.int .i64 0)) rfl rfl _) (new_calls (X := 0) (N := 0) (by decide) w) ?_
  rintro _ w7 ⟨r1, b2, rfl, R3, lo4, lo5, hf8⟩
  simp only [nf0, nf1, nf2, nf3, nf4]
  replace lo4 := low_le bel lo4
  replace lo5 := low_le bel lo5
  replace bel := bl_step bel hf8
  clear hf8
  have ne6 : r1 ≠ b2 := Rg.nerb R3
  refine st_call (by rfl) (j_run_call_7_1 (.const (.int .i64 (-5))) rfl rfl _) (new_calls (X := (-5)) (N := 0) (by decide) w7) ?_
  rintro _ w15 ⟨r9, b10, rfl, R11, lo12, lo13, hf16⟩
  simp only [nf0, nf1, nf2, nf3, nf4]
  have n17 : r1 ≠ r9 := Nat.ne_of_lt (Nat.lt_of_lt_of_le R3.ltr lo12)
  have n18 : b2 ≠ r9 := Nat.ne_of_lt (Nat.lt_of_lt_of_le R3.ltb lo12)
  have n19 : r1 ≠ b10 := Nat.ne_of_lt (Nat.lt_of_lt_of_le R3.ltr lo13)
  have n20 : b2 ≠ b10 := Nat.ne_of_lt (Nat.lt_of_lt_of_le R3.ltb lo13)
  replace lo12 := low_le bel lo12
  replace lo13 := low_le bel lo13
  replace R3 := R3.below hf16
  replace bel := bl_step bel hf16
  clear hf16
  have ne14 : r9 ≠ b10 := Rg.nerb R11
  refine st_lit (n := 3) (by rfl) (j_run_lit_45_3 (.tmp 16) (.tmp 17) (.tmp 18) rfl rfl rfl rfl _) ?_
  intro g21 w22 B23 hb24 lo25
  simp only [nf0, nf1, nf2, nf3, nf4]
  have n26 : r1 ≠ g21 := Nat.ne_of_lt (Nat.lt_of_lt_of_le R3.ltr lo25)
  have n27 : b2 ≠ g21 := Nat.ne_of_lt (Nat.lt_of_lt_of_le R3.ltb lo25)
  have n28 : r9 ≠ g21 := Nat.ne_of_lt (Nat.lt_of_lt_of_le R11.ltr lo25)
  have n29 : b10 ≠ g21 := Nat.ne_of_lt (Nat.lt_of_lt_of_le R11.ltb lo25)
  replace lo25 := low_le bel lo25
  replace R3 := R3.below hb24
  replace R11 := R11.below hb24
  replace bel := bl_step bel hb24
  clear hb24
  refine st_value (v := (.int .i64 3)) (by rfl) (run_len (.tmp 19) rfl ⟨_, Try.underlying45⟩ rfl w22) ?_
  simp only [nf0, nf1, nf2, nf3, nf4]
  refine st_mv (.int .i64 0) ?_
  simp only [nf0, nf1, nf2, nf3, nf4]
  refine wpList_nil ?_
  show Code.wp _ _ _ _ _
  refine wp_block ?_
  refine wp_loop_rnds 3 ?_
  show Code.wp _ _ _ _ _
  refine wp_seq ?_
  refine wp_region_lit ?_
  refine st_value (v := (.bool true)) (by rfl) ((run_lss (.tmp 21) (.tmp 20) rfl rfl rfl w22).trans (by rw [decide_eq_true (by omega)])) ?_
  simp only [nf0, nf1, nf2, nf3, nf4]
  refine wpList_nil ?_
  show Code.wp _ _ _ _ _
  refine wp_seq ?_
  refine wp_cond_true rfl ?_
  refine wp_skip ?_
  show Code.wp _ _ _ _ _
  refine wp_seq ?_
  refine wp_block ?_
  refine wp_seq ?_
  refine wp_region_lit ?_
  refine st_value (v := (.pointer (some ⟨g21, 0, none⟩))) (by rfl) (run_index1 (.tmp 19) (.tmp 21) rfl Try.underlying45 (by kernel_rfl) rfl rfl (by omega) (by omega) w22) ?_
  simp only [nf0, nf1, nf2, nf3, nf4]
  refine st_value (v := (.pointer none)) (by rfl) (run_loadB (.tmp 23) rfl j_one_23 rfl B23 rfl) ?_
  simp only [nf0, nf1, nf2, nf3, nf4]
  refine st_mv (.pointer none) ?_
  simp only [nf0, nf1, nf2, nf3, nf4]
  refine wpList_nil ?_
  show Code.wp _ _ _ _ _
  refine wp_seq ?_
  refine wp_region_lit ?_
  refine st_mv (.pointer none) ?_
  simp only [nf0, nf1, nf2, nf3, nf4]
  refine st_call1 (v := (.tuple #[.int .i64 0, .bool false])) (by rfl) (j_run_call_9_1 (.tmp 26) rfl rfl _) (first_nil w22) ?_
  intro w30 hb31
  simp only [nf0, nf1, nf2, nf3, nf4]
  replace R3 := R3.below hb31
  replace R11 := R11.below hb31
  replace B23 := B23.below hb31
  replace bel := bl_step bel hb31
  clear hb31
  refine st_mv (.tuple #[.int .i64 0, .bool false]) ?_
  simp only [nf0, nf1, nf2, nf3, nf4]
  refine st_mv (.int .i64 0) ?_
  simp only [nf0, nf1, nf2, nf3, nf4]
  refine st_mv (.bool false) ?_
  simp only [nf0, nf1, nf2, nf3, nf4]
  refine st_mv (.int .i64 0) ?_
  simp only [nf0, nf1, nf2, nf3, nf4]
  refine st_mv (.bool false) ?_
  simp only [nf0, nf1, nf2, nf3, nf4]
  refine wpList_nil ?_
  show Code.wp _ _ _ _ _
  refine wp_seq ?_
  refine wp_region_lit ?_
  refine st_mv (.pointer none) ?_
  simp only [nf0, nf1, nf2, nf3, nf4]
  refine st_call1 (v := (.tuple #[.int .i64 0, .bool false])) (by rfl) (j_run_call_15_1 (.tmp 31) rfl rfl _) (last_nil w30) ?_
  intro w32 hb33
  simp only [nf0, nf1, nf2, nf3, nf4]
  replace R3 := R3.below hb33
  replace R11 := R11.below hb33
  replace B23 := B23.below hb33
  replace bel := bl_step bel hb33
  clear hb33
  refine st_mv (.tuple #[.int .i64 0, .bool false]) ?_
  simp only [nf0, nf1, nf2, nf3, nf4]
  refine st_mv (.int .i64 0) ?_
  simp only [nf0, nf1, nf2, nf3, nf4]
  refine st_mv (.bool false) ?_
  simp only [nf0, nf1, nf2, nf3, nf4]
  refine st_mv (.int .i64 0) ?_
  simp only [nf0, nf1, nf2, nf3, nf4]
  refine st_mv (.bool false) ?_
  simp only [nf0, nf1, nf2, nf3, nf4]
  refine wpList_nil ?_
  show Code.wp _ _ _ _ _
  refine wp_seq ?_
  refine wp_region_lit ?_
  refine st_mv (.pointer none) ?_
  simp only [nf0, nf1, nf2, nf3, nf4]
  refine st_mv (.int .i64 i) ?_
  simp only [nf0, nf1, nf2, nf3, nf4]
  refine st_call1 (v := (.tuple #[.int .i64 0, .bool false])) (by rfl) (j_run_call_20_2 (.tmp 36) (.tmp 37) rfl rfl rfl _) (at_nil i w32) ?_
  intro w34 hb35
  simp only [nf0, nf1, nf2, nf3, nf4]
  replace R3 := R3.below hb35
  replace R11 := R11.below hb35
  replace B23 := B23.below hb35
  replace bel := bl_step bel hb35
  clear hb35
  refine st_mv (.tuple #[.int .i64 0, .bool false]) ?_
  simp only [nf0, nf1, nf2, nf3, nf4]
  refine st_mv (.int .i64 0) ?_
  simp only [nf0, nf1, nf2, nf3, nf4]
  refine st_mv (.bool false) ?_
  simp only [nf0, nf1, nf2, nf3, nf4]
  refine st_mv (.int .i64 0) ?_
  simp only [nf0, nf1, nf2, nf3, nf4]
  refine st_mv (.bool false) ?_
  simp only [nf0, nf1, nf2, nf3, nf4]
  refine wpList_nil ?_
  show Code.wp _ _ _ _ _
  refine wp_seq ?_
  refine wp_region_lit ?_
  refine st_mv (.pointer none) ?_
  simp only [nf0, nf1, nf2, nf3, nf4]
  refine st_mv (.int .i64 i) ?_
  simp only [nf0, nf1, nf2, nf3, nf4]
  refine st_call1 (v := (.tuple #[.int .i64 0, .bool false])) (by rfl) (j_run_call_21_2 (.tmp 42) (.tmp 43) rfl rfl rfl _) (take_nil i w34) ?_
  intro w36 hb37
  simp only [nf0, nf1, nf2, nf3, nf4]
  replace R3 := R3.below hb37
  replace R11 := R11.below hb37
  replace B23 := B23.below hb37
  replace bel := bl_step bel hb37
  clear hb37
  refine st_mv (.tuple #[.int .i64 0, .bool false]) ?_
  simp only [nf0, nf1, nf2, nf3, nf4]
  refine st_mv (.int .i64 0) ?_
  simp only [nf0, nf1, nf2, nf3, nf4]
  refine st_mv (.bool false) ?_
  simp only [nf0, nf1, nf2, nf3, nf4]
  refine st_mv (.int .i64 0) ?_
  simp only [nf0, nf1, nf2, nf3, nf4]
  refine st_mv (.bool false) ?_
  simp only [nf0, nf1, nf2, nf3, nf4]
  refine wpList_nil ?_
  show Code.wp _ _ _ _ _
  refine wp_seq ?_
  refine wp_region_lit ?_
  refine st_mv (.bool false) ?_
  simp only [nf0, nf1, nf2, nf3, nf4]
  refine st_mv (.bool false) ?_
  simp only [nf0, nf1, nf2, nf3, nf4]
  refine st_mv (.bool false) ?_
  simp only [nf0, nf1, nf2, nf3, nf4]
  refine st_mv (.bool false) ?_
  simp only [nf0, nf1, nf2, nf3, nf4]
  refine st_mv (.bool false) ?_
  simp only [nf0, nf1, nf2, nf3, nf4]
  refine st_mv (.bool false) ?_
  simp only [nf0, nf1, nf2, nf3, nf4]
  refine st_mv (.bool false) ?_
  simp only [nf0, nf1, nf2, nf3, nf4]
  refine st_mv (.bool false) ?_
  simp only [nf0, nf1, nf2, nf3, nf4]
  refine st_mv (.bool false) ?_
  simp only [nf0, nf1, nf2, nf3, nf4]
  refine st_mv (.bool false) ?_
  simp only [nf0, nf1, nf2, nf3, nf4]
  refine st_mv (.bool false) ?_
  simp only [nf0, nf1, nf2, nf3, nf4]
  refine st_mv (.pointer none) ?_
  simp only [nf0, nf1, nf2, nf3, nf4]
  refine st_mv (.int .i64 x) ?_
  simp only [nf0, nf1, nf2, nf3, nf4]
  refine st_call1 (v := (.bool false)) (by rfl) (j_run_call_10_2 (.tmp 58) (.tmp 59) rfl rfl rfl _) (back_nil x w36) ?_
  intro w38 hb39
  simp only [nf0, nf1, nf2, nf3, nf4]
  replace R3 := R3.below hb39
  replace R11 := R11.below hb39
  replace B23 := B23.below hb39
  replace bel := bl_step bel hb39
  clear hb39
  refine st_mv (.bool false) ?_
  simp only [nf0, nf1, nf2, nf3, nf4]
  refine st_mv (.bool false) ?_
  simp only [nf0, nf1, nf2, nf3, nf4]
  refine st_mv (.pointer none) ?_
  simp only [nf0, nf1, nf2, nf3, nf4]
  refine st_mv (.int .i64 x) ?_
  simp only [nf0, nf1, nf2, nf3, nf4]
  refine st_call1 (v := (.bool false)) (by rfl) (j_run_call_13_2 (.tmp 63) (.tmp 64) rfl rfl rfl _) (front_nil x w38) ?_
  intro w40 hb41
  simp only [nf0, nf1, nf2, nf3, nf4]
  replace R3 := R3.below hb41
  replace R11 := R11.below hb41
  replace B23 := B23.below hb41
  replace bel := bl_step bel hb41
  clear hb41
  refine st_mv (.bool false) ?_
  simp only [nf0, nf1, nf2, nf3, nf4]
  refine st_mv (.bool false) ?_
  simp only [nf0, nf1, nf2, nf3, nf4]
  refine st_mv (.pointer none) ?_
  simp only [nf0, nf1, nf2, nf3, nf4]
  refine st_mv (.int .i64 i) ?_
  simp only [nf0, nf1, nf2, nf3, nf4]
  refine st_mv (.int .i64 x) ?_
  simp only [nf0, nf1, nf2, nf3, nf4]
  refine st_call1 (v := (.bool false)) (by rfl) (j_run_call_14_3 (.tmp 68) (.tmp 69) (.tmp 70) rfl rfl rfl rfl _) (put_nil i x w40) ?_
  intro w42 hb43
  simp only [nf0, nf1, nf2, nf3, nf4]
  replace R3 := R3.below hb43
  replace R11 := R11.below hb43
  replace B23 := B23.below hb43
  replace bel := bl_step bel hb43
  clear hb43
  refine st_mv (.bool false) ?_
  simp only [nf0, nf1, nf2, nf3, nf4]
  refine st_mv (.bool false) ?_
  simp only [nf0, nf1, nf2, nf3, nf4]
  refine st_mv (.pointer none) ?_
  simp only [nf0, nf1, nf2, nf3, nf4]
  refine st_mv (.int .i64 x) ?_
  simp only [nf0, nf1, nf2, nf3, nf4]
  refine st_call1 (v := (.bool false)) (by rfl) (j_run_call_14_3 (.tmp 74) (.const (.int .i64 0)) (.tmp 75) rfl rfl rfl rfl _) (put_nil 0 x w42) ?_
  intro w44 hb45
  simp only [nf0, nf1, nf2, nf3, nf4]
  replace R3 := R3.below hb45
  replace R11 := R11.below hb45
  replace B23 := B23.below hb45
  replace bel := bl_step bel hb45
  clear hb45
  refine st_mv (.bool false) ?_
  simp only [nf0, nf1, nf2, nf3, nf4]
  refine st_mv (.bool false) ?_
  simp only [nf0, nf1, nf2, nf3, nf4]
  refine st_mv (.pointer none) ?_
  simp only [nf0, nf1, nf2, nf3, nf4]
  refine st_call1 (v := (.int .i64 0)) (by rfl) (j_run_call_8_1 (.tmp 79) rfl rfl _) (len_nil w44) ?_
  intro w46 hb47
  simp only [nf0, nf1, nf2, nf3, nf4]
  replace R3 := R3.below hb47
  replace R11 := R11.below hb47
  replace B23 := B23.below hb47
  replace bel := bl_step bel hb47
  clear hb47
  refine st_mv (.pointer none) ?_
  simp only [nf0, nf1, nf2, nf3, nf4]
  refine st_call1 (v := (.int .i64 0)) (by rfl) (j_run_call_16_1 (.tmp 81) rfl rfl _) (room_nil w46) ?_
  intro w48 hb49
  simp only [nf0, nf1, nf2, nf3, nf4]
  replace R3 := R3.below hb49
  replace R11 := R11.below hb49
  replace B23 := B23.below hb49
  replace bel := bl_step bel hb49
  clear hb49
  refine st_value (v := (.int .i64 0)) (by rfl) (run_add_in (m := 0) (n := 0) (.tmp 80) (.tmp 82) rfl rfl rfl (by omega) w48) ?_
  simp only [nf0, nf1, nf2, nf3, nf4]
  refine st_value (v := (.bool false)) (by rfl) (run_neq_int_t (.tmp 83) (.const (.int .i64 0)) rfl rfl rfl rfl w48) ?_
  simp only [nf0, nf1, nf2, nf3, nf4]
  refine st_mv (.bool false) ?_
  simp only [nf0, nf1, nf2, nf3, nf4]
  refine st_mv (.bool false) ?_
  simp only [nf0, nf1, nf2, nf3, nf4]
  refine st_mv (.pointer none) ?_
  simp only [nf0, nf1, nf2, nf3, nf4]
  refine st_mv (.int .i64 i) ?_
  simp only [nf0, nf1, nf2, nf3, nf4]
  refine st_call1 (v := (.bool true)) (by rfl) (j_run_call_19_3 (.tmp 87) (.const (.slice none 0 0)) (.tmp 88) rfl rfl rfl rfl _) (alike_nil w48) ?_
  intro w50 hb51
  simp only [nf0, nf1, nf2, nf3, nf4]
  replace R3 := R3.below hb51
  replace R11 := R11.below hb51
  replace B23 := B23.below hb51
  replace bel := bl_step bel hb51
  clear hb51
  refine st_value (v := (.bool false)) (by rfl) (run_not (.tmp 89) rfl (b := true) rfl w50) ?_
  simp only [nf0, nf1, nf2, nf3, nf4]
  refine st_mv (.bool false) ?_
  simp only [nf0, nf1, nf2, nf3, nf4]
  refine wpList_nil ?_
  show Code.wp _ _ _ _ _
  refine wp_cond_false rfl ?_
  refine wp_skip ?_
  show Code.wp _ _ _ _ _
  refine wp_region_lit ?_
  refine st_value (v := (.int .i64 1)) (by rfl) (run_add_in (m := 0) (n := 1) (.tmp 21) (.const (.int .i64 1)) rfl rfl rfl (by omega) w50) ?_
  simp only [nf0, nf1, nf2, nf3, nf4]
  refine st_mv (.int .i64 1) ?_
  simp only [nf0, nf1, nf2, nf3, nf4]
  refine wpList_nil ?_
  show Code.wp _ _ _ _ _
  refine wp_seq ?_
  refine wp_region_lit ?_
  refine st_value (v := (.bool true)) (by rfl) ((run_lss (.tmp 21) (.tmp 20) rfl rfl rfl w50).trans (by rw [decide_eq_true (by omega)])) ?_
  simp only [nf0, nf1, nf2, nf3, nf4]
  refine wpList_nil ?_
  show Code.wp _ _ _ _ _
  refine wp_seq ?_
  refine wp_cond_true rfl ?_
  refine wp_skip ?_
  show Code.wp _ _ _ _ _
  refine wp_seq ?_
  refine wp_block ?_
  refine wp_seq ?_
  refine wp_region_lit ?_
  refine st_value (v := (.pointer (some ⟨g21, 1, none⟩))) (by rfl) (run_index1 (.tmp 19) (.tmp 21) rfl Try.underlying45 (by kernel_rfl) rfl rfl (by omega) (by omega) w50) ?_
  simp only [nf0, nf1, nf2, nf3, nf4]
  refine st_value (v := (.pointer (some ⟨r1, 0, none⟩))) (by rfl) (run_loadB (.tmp 23) rfl j_one_23 rfl B23 rfl) ?_
  simp only [nf0, nf1, nf2, nf3, nf4]
  refine st_mv (.pointer (some ⟨r1, 0, none⟩)) ?_
  simp only [nf0, nf1, nf2, nf3, nf4]
  refine wpList_nil ?_
  show Code.wp _ _ _ _ _
  refine wp_seq ?_
  refine wp_region_lit ?_
  refine st_mv (.pointer (some ⟨r1, 0, none⟩)) ?_
  simp only [nf0, nf1, nf2, nf3, nf4]
  refine st_call (by rfl) (j_run_call_9_1 (.tmp 26) rfl rfl _) (first_no R3 (by decide)) ?_
  rintro _ w53 ⟨rfl, R52, hf54⟩
  simp only [nf0, nf1, nf2, nf3, nf4]
  replace R11 := R11.fr hf54 (ni2 n17.symm n18.symm) (ni2 n19.symm n20.symm)
  replace B23 := B23.fr hf54 (ni2 n26.symm n27.symm)
  replace bel := bl_call bel hf54 (lo2 lo4 lo5)
  clear hf54
  clear R3
  replace R52 : Rg w53 r1 b2 0 [] := R52
  refine st_mv (.tuple #[.int .i64 0, .bool false]) ?_
  simp only [nf0, nf1, nf2, nf3, nf4]
  refine st_mv (.int .i64 0) ?_
  simp only [nf0, nf1, nf2, nf3, nf4]
  refine st_mv (.bool false) ?_
  simp only [nf0, nf1, nf2, nf3, nf4]
  refine st_mv (.int .i64 0) ?_
  simp only [nf0, nf1, nf2, nf3, nf4]
  refine st_mv (.bool false) ?_
  simp only [nf0, nf1, nf2, nf3, nf4]
  refine wpList_nil ?_
  show Code.wp _ _ _ _ _
  refine wp_seq ?_
  refine wp_region_lit ?_
  refine st_mv (.pointer (some ⟨r1, 0, none⟩)) ?_
  simp only [nf0, nf1, nf2, nf3, nf4]
  refine st_call (by rfl) (j_run_call_15_1 (.tmp 31) rfl rfl _) (last_no R52 (by decide)) ?_
  rintro _ w56 ⟨rfl, R55, hf57⟩
  simp only [nf0, nf1, nf2, nf3, nf4]
  replace R11 := R11.fr hf57 (ni2 n17.symm n18.symm) (ni2 n19.symm n20.symm)
  replace B23 := B23.fr hf57 (ni2 n26.symm n27.symm)
  replace bel := bl_call bel hf57 (lo2 lo4 lo5)
  clear hf57
  clear R52
  replace R55 : Rg w56 r1 b2 0 [] := R55
  refine st_mv (.tuple #[.int .i64 0, .bool false]) ?_
  simp only [nf0, nf1, nf2, nf3, nf4]
  refine st_mv (.int .i64 0) ?_
  simp only [nf0, nf1, nf2, nf3, nf4]
  refine st_mv (.bool false) ?_
  simp only [nf0, nf1, nf2, nf3, nf4]
  refine st_mv (.int .i64 0) ?_
  simp only [nf0, nf1, nf2, nf3, nf4]
  refine st_mv (.bool false) ?_
  simp only [nf0, nf1, nf2, nf3, nf4]
  refine wpList_nil ?_
  show Code.wp _ _ _ _ _
  refine wp_seq ?_
  refine wp_region_lit ?_
  refine st_mv (.pointer (some ⟨r1, 0, none⟩)) ?_
  simp only [nf0, nf1, nf2, nf3, nf4]
  refine st_mv (.int .i64 i) ?_
  simp only [nf0, nf1, nf2, nf3, nf4]
  refine st_call (by rfl) (j_run_call_20_2 (.tmp 36) (.tmp 37) rfl rfl rfl _) (at_no R55 (i := i) (by simp; omega)) ?_
  rintro _ w59 ⟨rfl, hf60⟩
  simp only [nf0, nf1, nf2, nf3, nf4]
  replace R55 := R55.below hf60
  replace R11 := R11.below hf60
  replace B23 := B23.below hf60
  replace bel := bl_step bel hf60
  clear hf60
  refine st_mv (.tuple #[.int .i64 0, .bool false]) ?_
  simp only [nf0, nf1, nf2, nf3, nf4]
  refine st_mv (.int .i64 0) ?_
  simp only [nf0, nf1, nf2, nf3, nf4]
  refine st_mv (.bool false) ?_
  simp only [nf0, nf1, nf2, nf3, nf4]
  refine st_mv (.int .i64 0) ?_
  simp only [nf0, nf1, nf2, nf3, nf4]
  refine st_mv (.bool false) ?_
  simp only [nf0, nf1, nf2, nf3, nf4]
  refine wpList_nil ?_
  show Code.wp _ _ _ _ _
  refine wp_seq ?_
  refine wp_region_lit ?_
  refine st_mv (.pointer (some ⟨r1, 0, none⟩)) ?_
  simp only [nf0, nf1, nf2, nf3, nf4]
  refine st_mv (.int .i64 i) ?_
  simp only [nf0, nf1, nf2, nf3, nf4]
  refine st_call (by rfl) (j_run_call_21_2 (.tmp 42) (.tmp 43) rfl rfl rfl _) (take_no R55 (i := i) (by simp; omega)) ?_
  rintro _ w62 ⟨rfl, R61, hf63⟩
  simp only [nf0, nf1, nf2, nf3, nf4]
  replace R11 := R11.fr hf63 (ni2 n17.symm n18.symm) (ni2 n19.symm n20.symm)
  replace B23 := B23.fr hf63 (ni2 n26.symm n27.symm)
  replace bel := bl_call bel hf63 (lo2 lo4 lo5)
  clear hf63
  clear R55
  replace R61 : Rg w62 r1 b2 0 [] := R61
  refine st_mv (.tuple #[.int .i64 0, .bool false]) ?_
  simp only [nf0, nf1, nf2, nf3, nf4]
  refine st_mv (.int .i64 0) ?_
  simp only [nf0, nf1, nf2, nf3, nf4]
  refine st_mv (.bool false) ?_
  simp only [nf0, nf1, nf2, nf3, nf4]
  refine st_mv (.int .i64 0) ?_
  simp only [nf0, nf1, nf2, nf3, nf4]
  refine st_mv (.bool false) ?_
  simp only [nf0, nf1, nf2, nf3, nf4]
  refine wpList_nil ?_
  show Code.wp _ _ _ _ _
  refine wp_seq ?_
  refine wp_region_lit ?_
  refine st_mv (.bool false) ?_
  simp only [nf0, nf1, nf2, nf3, nf4]
  refine st_mv (.bool false) ?_
  simp only [nf0, nf1, nf2, nf3, nf4]
  refine st_mv (.bool false) ?_
  simp only [nf0, nf1, nf2, nf3, nf4]
  refine st_mv (.bool false) ?_
  simp only [nf0, nf1, nf2, nf3, nf4]
  refine st_mv (.bool false) ?_
  simp only [nf0, nf1, nf2, nf3, nf4]
  refine st_mv (.bool false) ?_
  simp only [nf0, nf1, nf2, nf3, nf4]
  refine st_mv (.bool false) ?_
  simp only [nf0, nf1, nf2, nf3, nf4]
  refine st_mv (.bool false) ?_
  simp only [nf0, nf1, nf2, nf3, nf4]
  refine st_mv (.bool false) ?_
  simp only [nf0, nf1, nf2, nf3, nf4]
  refine st_mv (.bool false) ?_
  simp only [nf0, nf1, nf2, nf3, nf4]
  refine st_mv (.bool false) ?_
  simp only [nf0, nf1, nf2, nf3, nf4]
  refine st_mv (.pointer (some ⟨r1, 0, none⟩)) ?_
  simp only [nf0, nf1, nf2, nf3, nf4]
  refine st_mv (.int .i64 x) ?_
  simp only [nf0, nf1, nf2, nf3, nf4]
  refine st_call (by rfl) (j_run_call_10_2 (.tmp 58) (.tmp 59) rfl rfl rfl _) (back_no R61 (by decide) x) ?_
  rintro _ w65 ⟨rfl, R64, hf66⟩
  simp only [nf0, nf1, nf2, nf3, nf4]
  replace R11 := R11.fr hf66 (ni2 n17.symm n18.symm) (ni2 n19.symm n20.symm)
  replace B23 := B23.fr hf66 (ni2 n26.symm n27.symm)
  replace bel := bl_call bel hf66 (lo2 lo4 lo5)
  clear hf66
  clear R61
  replace R64 : Rg w65 r1 b2 0 [] := R64
  refine st_mv (.bool false) ?_
  simp only [nf0, nf1, nf2, nf3, nf4]
  refine st_mv (.bool false) ?_
  simp only [nf0, nf1, nf2, nf3, nf4]
  refine st_mv (.pointer (some ⟨r1, 0, none⟩)) ?_
  simp only [nf0, nf1, nf2, nf3, nf4]
  refine st_mv (.int .i64 x) ?_
  simp only [nf0, nf1, nf2, nf3, nf4]
  refine st_call (by rfl) (j_run_call_13_2 (.tmp 63) (.tmp 64) rfl rfl rfl _) (front_no R64 (by decide) x) ?_
  rintro _ w68 ⟨rfl, R67, hf69⟩
  simp only [nf0, nf1, nf2, nf3, nf4]
  replace R11 := R11.fr hf69 (ni2 n17.symm n18.symm) (ni2 n19.symm n20.symm)
  replace B23 := B23.fr hf69 (ni2 n26.symm n27.symm)
  replace bel := bl_call bel hf69 (lo2 lo4 lo5)
  clear hf69
  clear R64
  replace R67 : Rg w68 r1 b2 0 [] := R67
  refine st_mv (.bool false) ?_
  simp only [nf0, nf1, nf2, nf3, nf4]
  refine st_mv (.bool false) ?_
  simp only [nf0, nf1, nf2, nf3, nf4]
  refine st_mv (.pointer (some ⟨r1, 0, none⟩)) ?_
  simp only [nf0, nf1, nf2, nf3, nf4]
  refine st_mv (.int .i64 i) ?_
  simp only [nf0, nf1, nf2, nf3, nf4]
  refine st_mv (.int .i64 x) ?_
  simp only [nf0, nf1, nf2, nf3, nf4]
  refine st_call (by rfl) (j_run_call_14_3 (.tmp 68) (.tmp 69) (.tmp 70) rfl rfl rfl rfl _) (put_no R67 (i := i) (by simp) x) ?_
  rintro _ w71 ⟨rfl, R70, hf72⟩
  simp only [nf0, nf1, nf2, nf3, nf4]
  replace R11 := R11.fr hf72 (ni2 n17.symm n18.symm) (ni2 n19.symm n20.symm)
  replace B23 := B23.fr hf72 (ni2 n26.symm n27.symm)
  replace bel := bl_call bel hf72 (lo2 lo4 lo5)
  clear hf72
  clear R67
  replace R70 : Rg w71 r1 b2 0 [] := R70
  refine st_mv (.bool false) ?_
  simp only [nf0, nf1, nf2, nf3, nf4]
  refine st_mv (.bool false) ?_
  simp only [nf0, nf1, nf2, nf3, nf4]
  refine st_mv (.pointer (some ⟨r1, 0, none⟩)) ?_
  simp only [nf0, nf1, nf2, nf3, nf4]
  refine st_mv (.int .i64 x) ?_
  simp only [nf0, nf1, nf2, nf3, nf4]
  refine st_call (by rfl) (j_run_call_14_3 (.tmp 74) (.const (.int .i64 0)) (.tmp 75) rfl rfl rfl rfl _) (put_no R70 (i := 0) (by simp) x) ?_
  rintro _ w74 ⟨rfl, R73, hf75⟩
  simp only [nf0, nf1, nf2, nf3, nf4]
  replace R11 := R11.fr hf75 (ni2 n17.symm n18.symm) (ni2 n19.symm n20.symm)
  replace B23 := B23.fr hf75 (ni2 n26.symm n27.symm)
  replace bel := bl_call bel hf75 (lo2 lo4 lo5)
  clear hf75
  clear R70
  replace R73 : Rg w74 r1 b2 0 [] := R73
  refine st_mv (.bool false) ?_
  simp only [nf0, nf1, nf2, nf3, nf4]
  refine st_mv (.bool false) ?_
  simp only [nf0, nf1, nf2, nf3, nf4]
  refine st_mv (.pointer (some ⟨r1, 0, none⟩)) ?_
  simp only [nf0, nf1, nf2, nf3, nf4]
  refine st_call1 (v := (.int .i64 0)) (by rfl) (j_run_call_8_1 (.tmp 79) rfl rfl _) (len_rg R73) ?_
  intro w76 hb77
  simp only [nf0, nf1, nf2, nf3, nf4]
  replace R73 := R73.below hb77
  replace R11 := R11.below hb77
  replace B23 := B23.below hb77
  replace bel := bl_step bel hb77
  clear hb77
  refine st_mv (.pointer (some ⟨r1, 0, none⟩)) ?_
  simp only [nf0, nf1, nf2, nf3, nf4]
  refine st_call1 (v := (.int .i64 0)) (by rfl) (j_run_call_16_1 (.tmp 81) rfl rfl _) (room_rg R73) ?_
  intro w78 hb79
  simp only [nf0, nf1, nf2, nf3, nf4]
  replace R73 := R73.below hb79
  replace R11 := R11.below hb79
  replace B23 := B23.below hb79
  replace bel := bl_step bel hb79
  clear hb79
  refine st_value (v := (.int .i64 0)) (by rfl) (run_add_in (m := 0) (n := 0) (.tmp 80) (.tmp 82) rfl rfl rfl (by omega) w78) ?_
  simp only [nf0, nf1, nf2, nf3, nf4]
  refine st_value (v := (.bool false)) (by rfl) (run_neq_int_t (.tmp 83) (.const (.int .i64 0)) rfl rfl rfl rfl w78) ?_
  simp only [nf0, nf1, nf2, nf3, nf4]
  refine st_mv (.bool false) ?_
  simp only [nf0, nf1, nf2, nf3, nf4]
  refine st_mv (.bool false) ?_
  simp only [nf0, nf1, nf2, nf3, nf4]
  refine st_mv (.pointer (some ⟨r1, 0, none⟩)) ?_
  simp only [nf0, nf1, nf2, nf3, nf4]
  refine st_mv (.int .i64 i) ?_
  simp only [nf0, nf1, nf2, nf3, nf4]
  refine st_call1 (v := (.bool true)) (by rfl) (j_run_call_19_3 (.tmp 87) (.const (.slice none 0 0)) (.tmp 88) rfl rfl rfl rfl _) (alike_rg R73 (A := none) (cap := 0) (Reads.nil _ _)) ?_
  intro w80 hb81
  simp only [nf0, nf1, nf2, nf3, nf4]
  replace R73 := R73.below hb81
  replace R11 := R11.below hb81
  replace B23 := B23.below hb81
  replace bel := bl_step bel hb81
  clear hb81
  refine st_value (v := (.bool false)) (by rfl) (run_not (.tmp 89) rfl (b := true) rfl w80) ?_
  simp only [nf0, nf1, nf2, nf3, nf4]
  refine st_mv (.bool false) ?_
  simp only [nf0, nf1, nf2, nf3, nf4]
  refine wpList_nil ?_
  show Code.wp _ _ _ _ _
  refine wp_cond_false rfl ?_
  refine wp_skip ?_
  show Code.wp _ _ _ _ _
  refine wp_region_lit ?_
  refine st_value (v := (.int .i64 2)) (by rfl) (run_add_in (m := 1) (n := 1) (.tmp 21) (.const (.int .i64 1)) rfl rfl rfl (by omega) w80) ?_
  simp only [nf0, nf1, nf2, nf3, nf4]
  refine st_mv (.int .i64 2) ?_
  simp only [nf0, nf1, nf2, nf3, nf4]
  refine wpList_nil ?_
  show Code.wp _ _ _ _ _
  refine wp_seq ?_
  refine wp_region_lit ?_
  refine st_value (v := (.bool true)) (by rfl) ((run_lss (.tmp 21) (.tmp 20) rfl rfl rfl w80).trans (by rw [decide_eq_true (by omega)])) ?_
  simp only [nf0, nf1, nf2, nf3, nf4]
  refine wpList_nil ?_
  show Code.wp _ _ _ _ _
  refine wp_seq ?_
  refine wp_cond_true rfl ?_
  refine wp_skip ?_
  show Code.wp _ _ _ _ _
  refine wp_seq ?_
  refine wp_block ?_
  refine wp_seq ?_
  refine wp_region_lit ?_
  refine st_value (v := (.pointer (some ⟨g21, 2, none⟩))) (by rfl) (run_index1 (.tmp 19) (.tmp 21) rfl Try.underlying45 (by kernel_rfl) rfl rfl (by omega) (by omega) w80) ?_
  simp only [nf0, nf1, nf2, nf3, nf4]
  refine st_value (v := (.pointer (some ⟨r9, 0, none⟩))) (by rfl) (run_loadB (.tmp 23) rfl j_one_23 rfl B23 rfl) ?_
  simp only [nf0, nf1, nf2, nf3, nf4]
  refine st_mv (.pointer (some ⟨r9, 0, none⟩)) ?_
  simp only [nf0, nf1, nf2, nf3, nf4]
  refine wpList_nil ?_
  show Code.wp _ _ _ _ _
  refine wp_seq ?_
  refine wp_region_lit ?_
  refine st_mv (.pointer (some ⟨r9, 0, none⟩)) ?_
  simp only [nf0, nf1, nf2, nf3, nf4]
  refine st_call (by rfl) (j_run_call_9_1 (.tmp 26) rfl rfl _) (first_no R11 (by decide)) ?_
  rintro _ w83 ⟨rfl, R82, hf84⟩
  simp only [nf0, nf1, nf2, nf3, nf4]
  replace R73 := R73.fr hf84 (ni2 n17 n19) (ni2 n18 n20)
  replace B23 := B23.fr hf84 (ni2 n28.symm n29.symm)
  replace bel := bl_call bel hf84 (lo2 lo12 lo13)
  clear hf84
  clear R11
  replace R82 : Rg w83 r9 b10 0 [] := R82
  refine st_mv (.tuple #[.int .i64 0, .bool false]) ?_
  simp only [nf0, nf1, nf2, nf3, nf4]
  refine st_mv (.int .i64 0) ?_
  simp only [nf0, nf1, nf2, nf3, nf4]
  refine st_mv (.bool false) ?_
  simp only [nf0, nf1, nf2, nf3, nf4]
  refine st_mv (.int .i64 0) ?_
  simp only [nf0, nf1, nf2, nf3, nf4]
  refine st_mv (.bool false) ?_
  simp only [nf0, nf1, nf2, nf3, nf4]
  refine wpList_nil ?_
  show Code.wp _ _ _ _ _
  refine wp_seq ?_
  refine wp_region_lit ?_
  refine st_mv (.pointer (some ⟨r9, 0, none⟩)) ?_
  simp only [nf0, nf1, nf2, nf3, nf4]
  refine st_call (by rfl) (j_run_call_15_1 (.tmp 31) rfl rfl _) (last_no R82 (by decide)) ?_
  rintro _ w86 ⟨rfl, R85, hf87⟩
  simp only [nf0, nf1, nf2, nf3, nf4]
  replace R73 := R73.fr hf87 (ni2 n17 n19) (ni2 n18 n20)
  replace B23 := B23.fr hf87 (ni2 n28.symm n29.symm)
  replace bel := bl_call bel hf87 (lo2 lo12 lo13)
  clear hf87
  clear R82
  replace R85 : Rg w86 r9 b10 0 [] := R85
  refine st_mv (.tuple #[.int .i64 0, .bool false]) ?_
  simp only [nf0, nf1, nf2, nf3, nf4]
  refine st_mv (.int .i64 0) ?_
  simp only [nf0, nf1, nf2, nf3, nf4]
  refine st_mv (.bool false) ?_
  simp only [nf0, nf1, nf2, nf3, nf4]
  refine st_mv (.int .i64 0) ?_
  simp only [nf0, nf1, nf2, nf3, nf4]
  refine st_mv (.bool false) ?_
  simp only [nf0, nf1, nf2, nf3, nf4]
  refine wpList_nil ?_
  show Code.wp _ _ _ _ _
  refine wp_seq ?_
  refine wp_region_lit ?_
  refine st_mv (.pointer (some ⟨r9, 0, none⟩)) ?_
  simp only [nf0, nf1, nf2, nf3, nf4]
  refine st_mv (.int .i64 i) ?_
  simp only [nf0, nf1, nf2, nf3, nf4]
  refine st_call (by rfl) (j_run_call_20_2 (.tmp 36) (.tmp 37) rfl rfl rfl _) (at_no R85 (i := i) (by simp; omega)) ?_
  rintro _ w89 ⟨rfl, hf90⟩
  simp only [nf0, nf1, nf2, nf3, nf4]
  replace R73 := R73.below hf90
  replace R85 := R85.below hf90
  replace B23 := B23.below hf90
  replace bel := bl_step bel hf90
  clear hf90
  refine st_mv (.tuple #[.int .i64 0, .bool false]) ?_
  simp only [nf0, nf1, nf2, nf3, nf4]
  refine st_mv (.int .i64 0) ?_
  simp only [nf0, nf1, nf2, nf3, nf4]
  refine st_mv (.bool false) ?_
  simp only [nf0, nf1, nf2, nf3, nf4]
  refine st_mv (.int .i64 0) ?_
  simp only [nf0, nf1, nf2, nf3, nf4]
  refine st_mv (.bool false) ?_
  simp only [nf0, nf1, nf2, nf3, nf4]
  refine wpList_nil ?_
  show Code.wp _ _ _ _ _
  refine wp_seq ?_
  refine wp_region_lit ?_
  refine st_mv (.pointer (some ⟨r9, 0, none⟩)) ?_
  simp only [nf0, nf1, nf2, nf3, nf4]
  refine st_mv (.int .i64 i) ?_
  simp only [nf0, nf1, nf2, nf3, nf4]
  refine st_call (by rfl) (j_run_call_21_2 (.tmp 42) (.tmp 43) rfl rfl rfl _) (take_no R85 (i := i) (by simp; omega)) ?_
  rintro _ w92 ⟨rfl, R91, hf93⟩
  simp only [nf0, nf1, nf2, nf3, nf4]
  replace R73 := R73.fr hf93 (ni2 n17 n19) (ni2 n18 n20)
  replace B23 := B23.fr hf93 (ni2 n28.symm n29.symm)
  replace bel := bl_call bel hf93 (lo2 lo12 lo13)
  clear hf93
  clear R85
  replace R91 : Rg w92 r9 b10 0 [] := R91
  refine st_mv (.tuple #[.int .i64 0, .bool false]) ?_
  simp only [nf0, nf1, nf2, nf3, nf4]
  refine st_mv (.int .i64 0) ?_
  simp only [nf0, nf1, nf2, nf3, nf4]
  refine st_mv (.bool false) ?_
  simp only [nf0, nf1, nf2, nf3, nf4]
  refine st_mv (.int .i64 0) ?_
  simp only [nf0, nf1, nf2, nf3, nf4]
  refine st_mv (.bool false) ?_
  simp only [nf0, nf1, nf2, nf3, nf4]
  refine wpList_nil ?_
  show Code.wp _ _ _ _ _
  refine wp_seq ?_
  refine wp_region_lit ?_
  refine st_mv (.bool false) ?_
  simp only [nf0, nf1, nf2, nf3, nf4]
  refine st_mv (.bool false) ?_
  simp only [nf0, nf1, nf2, nf3, nf4]
  refine st_mv (.bool false) ?_
  simp only [nf0, nf1, nf2, nf3, nf4]
  refine st_mv (.bool false) ?_
  simp only [nf0, nf1, nf2, nf3, nf4]
  refine st_mv (.bool false) ?_
  simp only [nf0, nf1, nf2, nf3, nf4]
  refine st_mv (.bool false) ?_
  simp only [nf0, nf1, nf2, nf3, nf4]
  refine st_mv (.bool false) ?_
  simp only [nf0, nf1, nf2, nf3, nf4]
  refine st_mv (.bool false) ?_
  simp only [nf0, nf1, nf2, nf3, nf4]
  refine st_mv (.bool false) ?_
  simp only [nf0, nf1, nf2, nf3, nf4]
  refine st_mv (.bool false) ?_
  simp only [nf0, nf1, nf2, nf3, nf4]
  refine st_mv (.bool false) ?_
  simp only [nf0, nf1, nf2, nf3, nf4]
  refine st_mv (.pointer (some ⟨r9, 0, none⟩)) ?_
  simp only [nf0, nf1, nf2, nf3, nf4]
  refine st_mv (.int .i64 x) ?_
  simp only [nf0, nf1, nf2, nf3, nf4]
  refine st_call (by rfl) (j_run_call_10_2 (.tmp 58) (.tmp 59) rfl rfl rfl _) (back_no R91 (by decide) x) ?_
  rintro _ w95 ⟨rfl, R94, hf96⟩
  simp only [nf0, nf1, nf2, nf3, nf4]
  replace R73 := R73.fr hf96 (ni2 n17 n19) (ni2 n18 n20)
  replace B23 := B23.fr hf96 (ni2 n28.symm n29.symm)
  replace bel := bl_call bel hf96 (lo2 lo12 lo13)
  clear hf96
  clear R91
  replace R94 : Rg w95 r9 b10 0 [] := R94
  refine st_mv (.bool false) ?_
  simp only [nf0, nf1, nf2, nf3, nf4]
  refine st_mv (.bool false) ?_
  simp only [nf0, nf1, nf2, nf3, nf4]
  refine st_mv (.pointer (some ⟨r9, 0, none⟩)) ?_
  simp only [nf0, nf1, nf2, nf3, nf4]
  refine st_mv (.int .i64 x) ?_
  simp only [nf0, nf1, nf2, nf3, nf4]
  refine st_call (by rfl) (j_run_call_13_2 (.tmp 63) (.tmp 64) rfl rfl rfl _) (front_no R94 (by decide) x) ?_
  rintro _ w98 ⟨rfl, R97, hf99⟩
  simp only [nf0, nf1, nf2, nf3, nf4]
  replace R73 := R73.fr hf99 (ni2 n17 n19) (ni2 n18 n20)
  replace B23 := B23.fr hf99 (ni2 n28.symm n29.symm)
  replace bel := bl_call bel hf99 (lo2 lo12 lo13)
  clear hf99
  clear R94
  replace R97 : Rg w98 r9 b10 0 [] := R97
  refine st_mv (.bool false) ?_
  simp only [nf0, nf1, nf2, nf3, nf4]
  refine st_mv (.bool false) ?_
  simp only [nf0, nf1, nf2, nf3, nf4]
  refine st_mv (.pointer (some ⟨r9, 0, none⟩)) ?_
  simp only [nf0, nf1, nf2, nf3, nf4]
  refine st_mv (.int .i64 i) ?_
  simp only [nf0, nf1, nf2, nf3, nf4]
  refine st_mv (.int .i64 x) ?_
  simp only [nf0, nf1, nf2, nf3, nf4]
  refine st_call (by rfl) (j_run_call_14_3 (.tmp 68) (.tmp 69) (.tmp 70) rfl rfl rfl rfl _) (put_no R97 (i := i) (by simp) x) ?_
  rintro _ w101 ⟨rfl, R100, hf102⟩
  simp only [nf0, nf1, nf2, nf3, nf4]
  replace R73 := R73.fr hf102 (ni2 n17 n19) (ni2 n18 n20)
  replace B23 := B23.fr hf102 (ni2 n28.symm n29.symm)
  replace bel := bl_call bel hf102 (lo2 lo12 lo13)
  clear hf102
  clear R97
  replace R100 : Rg w101 r9 b10 0 [] := R100
  refine st_mv (.bool false) ?_
  simp only [nf0, nf1, nf2, nf3, nf4]
  refine st_mv (.bool false) ?_
  simp only [nf0, nf1, nf2, nf3, nf4]
  refine st_mv (.pointer (some ⟨r9, 0, none⟩)) ?_
  simp only [nf0, nf1, nf2, nf3, nf4]
  refine st_mv (.int .i64 x) ?_
  simp only [nf0, nf1, nf2, nf3, nf4]
  refine st_call (by rfl) (j_run_call_14_3 (.tmp 74) (.const (.int .i64 0)) (.tmp 75) rfl rfl rfl rfl _) (put_no R100 (i := 0) (by simp) x) ?_
  rintro _ w104 ⟨rfl, R103, hf105⟩
  simp only [nf0, nf1, nf2, nf3, nf4]
  replace R73 := R73.fr hf105 (ni2 n17 n19) (ni2 n18 n20)
  replace B23 := B23.fr hf105 (ni2 n28.symm n29.symm)
  replace bel := bl_call bel hf105 (lo2 lo12 lo13)
  clear hf105
  clear R100
  replace R103 : Rg w104 r9 b10 0 [] := R103
  refine st_mv (.bool false) ?_
  simp only [nf0, nf1, nf2, nf3, nf4]
  refine st_mv (.bool false) ?_
  simp only [nf0, nf1, nf2, nf3, nf4]
  refine st_mv (.pointer (some ⟨r9, 0, none⟩)) ?_
  simp only [nf0, nf1, nf2, nf3, nf4]
  refine st_call1 (v := (.int .i64 0)) (by rfl) (j_run_call_8_1 (.tmp 79) rfl rfl _) (len_rg R103) ?_
  intro w106 hb107
  simp only [nf0, nf1, nf2, nf3, nf4]
  replace R73 := R73.below hb107
  replace R103 := R103.below hb107
  replace B23 := B23.below hb107
  replace bel := bl_step bel hb107
  clear hb107
  refine st_mv (.pointer (some ⟨r9, 0, none⟩)) ?_
  simp only [nf0, nf1, nf2, nf3, nf4]
  refine st_call1 (v := (.int .i64 0)) (by rfl) (j_run_call_16_1 (.tmp 81) rfl rfl _) (room_rg R103) ?_
  intro w108 hb109
  simp only [nf0, nf1, nf2, nf3, nf4]
  replace R73 := R73.below hb109
  replace R103 := R103.below hb109
  replace B23 := B23.below hb109
  replace bel := bl_step bel hb109
  clear hb109
  refine st_value (v := (.int .i64 0)) (by rfl) (run_add_in (m := 0) (n := 0) (.tmp 80) (.tmp 82) rfl rfl rfl (by omega) w108) ?_
  simp only [nf0, nf1, nf2, nf3, nf4]
  refine st_value (v := (.bool false)) (by rfl) (run_neq_int_t (.tmp 83) (.const (.int .i64 0)) rfl rfl rfl rfl w108) ?_
  simp only [nf0, nf1, nf2, nf3, nf4]
  refine st_mv (.bool false) ?_
  simp only [nf0, nf1, nf2, nf3, nf4]
  refine st_mv (.bool false) ?_
  simp only [nf0, nf1, nf2, nf3, nf4]
  refine st_mv (.pointer (some ⟨r9, 0, none⟩)) ?_
  simp only [nf0, nf1, nf2, nf3, nf4]
  refine st_mv (.int .i64 i) ?_
  simp only [nf0, nf1, nf2, nf3, nf4]
  refine st_call1 (v := (.bool true)) (by rfl) (j_run_call_19_3 (.tmp 87) (.const (.slice none 0 0)) (.tmp 88) rfl rfl rfl rfl _) (alike_rg R103 (A := none) (cap := 0) (Reads.nil _ _)) ?_
  intro w110 hb111
  simp only [nf0, nf1, nf2, nf3, nf4]
  replace R73 := R73.below hb111
  replace R103 := R103.below hb111
  replace B23 := B23.below hb111
  replace bel := bl_step bel hb111
  clear hb111
  refine st_value (v := (.bool false)) (by rfl) (run_not (.tmp 89) rfl (b := true) rfl w110) ?_
  simp only [nf0, nf1, nf2, nf3, nf4]
  refine st_mv (.bool false) ?_
  simp only [nf0, nf1, nf2, nf3, nf4]
  refine wpList_nil ?_
  show Code.wp _ _ _ _ _
  refine wp_cond_false rfl ?_
  refine wp_skip ?_
  show Code.wp _ _ _ _ _
  refine wp_region_lit ?_
  refine st_value (v := (.int .i64 3)) (by rfl) (run_add_in (m := 2) (n := 1) (.tmp 21) (.const (.int .i64 1)) rfl rfl rfl (by omega) w110) ?_
  simp only [nf0, nf1, nf2, nf3, nf4]
  refine st_mv (.int .i64 3) ?_
  simp only [nf0, nf1, nf2, nf3, nf4]
  refine wpList_nil ?_
  show Code.wp _ _ _ _ _
  refine wp_seq ?_
  refine wp_region_lit ?_
  refine st_value (v := (.bool false)) (by rfl) ((run_lss (.tmp 21) (.tmp 20) rfl rfl rfl w110).trans (by rw [decide_eq_false (by omega)])) ?_
  simp only [nf0, nf1, nf2, nf3, nf4]
  refine wpList_nil ?_
  show Code.wp _ _ _ _ _
  refine wp_seq ?_
  refine wp_cond_false rfl ?_
  refine wp_exit ?_
  show Code.wp _ _ _ _ _
  refine wp_seq ?_
  refine wp_region_lit ?_
  refine st_call1 (v := (.bool true)) (by rfl) (j_run_call_12_0  rfl  _) (lives_calls w110) ?_
  intro w112 hb113
  simp only [nf0, nf1, nf2, nf3, nf4]
  replace R73 := R73.below hb113
  replace R103 := R103.below hb113
  replace B23 := B23.below hb113
  replace bel := bl_step bel hb113
  clear hb113
  refine st_mv (.bool true) ?_
  simp only [nf0, nf1, nf2, nf3, nf4]
  refine wpList_nil ?_
  show Code.wp _ _ _ _ _
  refine wp_ret ?_
  first | show bodyPost _ _ _ _ _ _ | (simp only [Exit.then, Exit.inBlock]; show bodyPost _ _ _ _ _ _)
  exact bodyPost_ret (results_tmp rfl _ _ _) rfl ⟨rfl, bel⟩
end Go.Proofs.Ytdhhcjhinpmeeaa
