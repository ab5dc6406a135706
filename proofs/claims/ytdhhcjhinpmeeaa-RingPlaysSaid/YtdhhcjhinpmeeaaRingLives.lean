/- The document's examples on a row. -/
import Derived.Test.YtdhhcjhinpmeeaaRingFirst
namespace Go.Proofs.Ytdhhcjhinpmeeaa
open Go.RowKit Go.WideShapes Go.ChangeShapes
set_option linter.unusedSimpArgs false
set_option linter.unusedVariables false

theorem l_run_call_7_1 {o : Oper} {a : Act} (x0 : Operand) {ts : Array TypeId} (ho : o.op = .call { callee := .value (.func 7), args := #[x0], argTypes := ts }) {v0 : Value} (h0 : a.eval x0 = v0) (W : World) : (execOp a.eval o).run Try.prog W = .ok (.enter 7 #[v0]) W := by
  unfold execOp
  simp only [ho]
  subst h0
  go_simp
theorem l_run_call_9_1 {o : Oper} {a : Act} (x0 : Operand) {ts : Array TypeId} (ho : o.op = .call { callee := .value (.func 9), args := #[x0], argTypes := ts }) {v0 : Value} (h0 : a.eval x0 = v0) (W : World) : (execOp a.eval o).run Try.prog W = .ok (.enter 9 #[v0]) W := by
  unfold execOp
  simp only [ho]
  subst h0
  go_simp
theorem l_run_call_10_2 {o : Oper} {a : Act} (x0 : Operand) (x1 : Operand) {ts : Array TypeId} (ho : o.op = .call { callee := .value (.func 10), args := #[x0, x1], argTypes := ts }) {v0 : Value} (h0 : a.eval x0 = v0) {v1 : Value} (h1 : a.eval x1 = v1) (W : World) : (execOp a.eval o).run Try.prog W = .ok (.enter 10 #[v0, v1]) W := by
  unfold execOp
  simp only [ho]
  subst h0 h1
  go_simp
theorem l_run_call_13_2 {o : Oper} {a : Act} (x0 : Operand) (x1 : Operand) {ts : Array TypeId} (ho : o.op = .call { callee := .value (.func 13), args := #[x0, x1], argTypes := ts }) {v0 : Value} (h0 : a.eval x0 = v0) {v1 : Value} (h1 : a.eval x1 = v1) (W : World) : (execOp a.eval o).run Try.prog W = .ok (.enter 13 #[v0, v1]) W := by
  unfold execOp
  simp only [ho]
  subst h0 h1
  go_simp
theorem l_run_call_15_1 {o : Oper} {a : Act} (x0 : Operand) {ts : Array TypeId} (ho : o.op = .call { callee := .value (.func 15), args := #[x0], argTypes := ts }) {v0 : Value} (h0 : a.eval x0 = v0) (W : World) : (execOp a.eval o).run Try.prog W = .ok (.enter 15 #[v0]) W := by
  unfold execOp
  simp only [ho]
  subst h0
  go_simp

attribute [local irreducible] Go.wpList Go.Code.wp
set_option maxRecDepth 100000 in
set_option maxHeartbeats 4000000 in
theorem lives_calls (w : World) : Calls Try.prog 12 #[] w fun e w' => e = .returned (.bool true) ∧ Below w.heap.size w w' := by
  have bel : Below w.heap.size w w := Below.refl _ _
  go_enter Try.func12, Try.ntmps12
  refine wp_seq ?_
  refine wp_region_lit ?_
  refine st_mv (.bool false) ?_
  simp only [nf0, nf1, nf2, nf3, nf4]
  refine wpList_nil ?_
  show Code.wp _ _ _ _ _
  refine wp_seq ?_
  refine wp_region_lit ?_
  refine st_call (by rfl) (l_run_call_7_1 (.const (.int .i64 2)) rfl rfl _) (new_calls (X := 2) (N := 2) (by decide) w) ?_
  rintro _ w7 ⟨r1, b2, rfl, R3, lo4, lo5, hf8⟩
  simp only [nf0, nf1, nf2, nf3, nf4]
  replace lo4 := low_le bel lo4
  replace lo5 := low_le bel lo5
  replace bel := bl_step bel hf8
  clear hf8
  have ne6 : r1 ≠ b2 := Rg.nerb R3
  refine st_mv (.pointer (some ⟨r1, 0, none⟩)) ?_
  simp only [nf0, nf1, nf2, nf3, nf4]
  refine wpList_nil ?_
  show Code.wp _ _ _ _ _
  refine wp_seq ?_
  refine wp_region_lit ?_
  refine st_mv (.pointer (some ⟨r1, 0, none⟩)) ?_
  simp only [nf0, nf1, nf2, nf3, nf4]
  refine st_call (by rfl) (l_run_call_10_2 (.tmp 11) (.const (.int .i64 1)) rfl rfl rfl _) (back_yes R3 (by decide) 1) ?_
  rintro _ w10 ⟨rfl, R9, hf11⟩
  simp only [nf0, nf1, nf2, nf3, nf4]
  replace bel := bl_call bel hf11 (lo2 lo4 lo5)
  clear hf11
  clear R3
  replace R9 : Rg w10 r1 b2 2 [1] := R9
  refine st_mv (.pointer (some ⟨r1, 0, none⟩)) ?_
  simp only [nf0, nf1, nf2, nf3, nf4]
  refine st_call (by rfl) (l_run_call_10_2 (.tmp 13) (.const (.int .i64 2)) rfl rfl rfl _) (back_yes R9 (by decide) 2) ?_
  rintro _ w13 ⟨rfl, R12, hf14⟩
  simp only [nf0, nf1, nf2, nf3, nf4]
  replace bel := bl_call bel hf14 (lo2 lo4 lo5)
  clear hf14
  clear R9
  replace R12 : Rg w13 r1 b2 2 [1, 2] := R12
  refine st_mv (.pointer (some ⟨r1, 0, none⟩)) ?_
  simp only [nf0, nf1, nf2, nf3, nf4]
  refine st_call (by rfl) (l_run_call_10_2 (.tmp 15) (.const (.int .i64 3)) rfl rfl rfl _) (back_no R12 (by decide) 3) ?_
  rintro _ w16 ⟨rfl, R15, hf17⟩
  simp only [nf0, nf1, nf2, nf3, nf4]
  replace bel := bl_call bel hf17 (lo2 lo4 lo5)
  clear hf17
  clear R12
  replace R15 : Rg w16 r1 b2 2 [1, 2] := R15
  refine st_mv (.bool true) ?_
  simp only [nf0, nf1, nf2, nf3, nf4]
  refine st_mv (.bool true) ?_
  simp only [nf0, nf1, nf2, nf3, nf4]
  refine st_mv (.bool false) ?_
  simp only [nf0, nf1, nf2, nf3, nf4]
  refine wpList_nil ?_
  show Code.wp _ _ _ _ _
  refine wp_seq ?_
  refine wp_region_lit ?_
  refine st_mv (.pointer (some ⟨r1, 0, none⟩)) ?_
  simp only [nf0, nf1, nf2, nf3, nf4]
  refine st_call (by rfl) (l_run_call_9_1 (.tmp 18) rfl rfl _) (first_yes R15 (by simp)) ?_
  rintro _ w19 ⟨rfl, R18, hf20⟩
  simp only [nf0, nf1, nf2, nf3, nf4]
  replace bel := bl_call bel hf20 (lo2 lo4 lo5)
  clear hf20
  clear R15
  replace R18 : Rg w19 r1 b2 2 [2] := R18
  refine st_mv (.tuple #[.int .i64 1, .bool true]) ?_
  simp only [nf0, nf1, nf2, nf3, nf4]
  refine st_mv (.int .i64 1) ?_
  simp only [nf0, nf1, nf2, nf3, nf4]
  refine st_mv (.bool true) ?_
  simp only [nf0, nf1, nf2, nf3, nf4]
  refine st_mv (.int .i64 1) ?_
  simp only [nf0, nf1, nf2, nf3, nf4]
  refine st_mv (.bool true) ?_
  simp only [nf0, nf1, nf2, nf3, nf4]
  refine wpList_nil ?_
  show Code.wp _ _ _ _ _
  refine wp_seq ?_
  refine wp_region_lit ?_
  refine st_mv (.pointer (some ⟨r1, 0, none⟩)) ?_
  simp only [nf0, nf1, nf2, nf3, nf4]
  refine st_call (by rfl) (l_run_call_13_2 (.tmp 22) (.const (.int .i64 4)) rfl rfl rfl _) (front_yes R18 (by decide) 4) ?_
  rintro _ w22 ⟨rfl, R21, hf23⟩
  simp only [nf0, nf1, nf2, nf3, nf4]
  replace bel := bl_call bel hf23 (lo2 lo4 lo5)
  clear hf23
  clear R18
  replace R21 : Rg w22 r1 b2 2 [4, 2] := R21
  refine st_mv (.bool true) ?_
  simp only [nf0, nf1, nf2, nf3, nf4]
  refine wpList_nil ?_
  show Code.wp _ _ _ _ _
  refine wp_seq ?_
  refine wp_region_lit ?_
  refine st_mv (.pointer (some ⟨r1, 0, none⟩)) ?_
  simp only [nf0, nf1, nf2, nf3, nf4]
  refine st_call (by rfl) (l_run_call_15_1 (.tmp 25) rfl rfl _) (last_yes R21 (by simp)) ?_
  rintro _ w25 ⟨rfl, R24, hf26⟩
  simp only [nf0, nf1, nf2, nf3, nf4]
  replace bel := bl_call bel hf26 (lo2 lo4 lo5)
  clear hf26
  clear R21
  replace R24 : Rg w25 r1 b2 2 [4] := R24
  refine st_mv (.tuple #[.int .i64 2, .bool true]) ?_
  simp only [nf0, nf1, nf2, nf3, nf4]
  refine st_mv (.int .i64 2) ?_
  simp only [nf0, nf1, nf2, nf3, nf4]
  refine st_mv (.bool true) ?_
  simp only [nf0, nf1, nf2, nf3, nf4]
  refine st_mv (.int .i64 2) ?_
  simp only [nf0, nf1, nf2, nf3, nf4]
  refine st_mv (.bool true) ?_
  simp only [nf0, nf1, nf2, nf3, nf4]
  refine wpList_nil ?_
  show Code.wp _ _ _ _ _
  refine wp_seq ?_
  refine wp_region_lit ?_
  refine st_mv (.bool true) ?_
  simp only [nf0, nf1, nf2, nf3, nf4]
  refine st_mv (.bool true) ?_
  simp only [nf0, nf1, nf2, nf3, nf4]
  refine st_mv (.bool true) ?_
  simp only [nf0, nf1, nf2, nf3, nf4]
  refine st_mv (.bool true) ?_
  simp only [nf0, nf1, nf2, nf3, nf4]
  refine st_mv (.bool true) ?_
  simp only [nf0, nf1, nf2, nf3, nf4]
  refine st_mv (.bool false) ?_
  simp only [nf0, nf1, nf2, nf3, nf4]
  refine st_value (v := (.bool true)) (by rfl) (run_not (.tmp 34) rfl (b := false) rfl w25) ?_
  simp only [nf0, nf1, nf2, nf3, nf4]
  refine st_mv (.bool true) ?_
  simp only [nf0, nf1, nf2, nf3, nf4]
  refine st_mv (.bool true) ?_
  simp only [nf0, nf1, nf2, nf3, nf4]
  refine st_mv (.int .i64 1) ?_
  simp only [nf0, nf1, nf2, nf3, nf4]
  refine st_value (v := (.bool true)) (by rfl) (run_eql_int_t (.tmp 38) (.const (.int .i64 1)) rfl rfl rfl rfl w25) ?_
  simp only [nf0, nf1, nf2, nf3, nf4]
  refine st_mv (.bool true) ?_
  simp only [nf0, nf1, nf2, nf3, nf4]
  refine st_mv (.bool true) ?_
  simp only [nf0, nf1, nf2, nf3, nf4]
  refine st_mv (.bool true) ?_
  simp only [nf0, nf1, nf2, nf3, nf4]
  refine st_mv (.bool true) ?_
  simp only [nf0, nf1, nf2, nf3, nf4]
  refine st_mv (.bool true) ?_
  simp only [nf0, nf1, nf2, nf3, nf4]
  refine st_mv (.int .i64 2) ?_
  simp only [nf0, nf1, nf2, nf3, nf4]
  refine st_value (v := (.bool true)) (by rfl) (run_eql_int_t (.tmp 45) (.const (.int .i64 2)) rfl rfl rfl rfl w25) ?_
  simp only [nf0, nf1, nf2, nf3, nf4]
  refine st_mv (.bool true) ?_
  simp only [nf0, nf1, nf2, nf3, nf4]
  refine st_mv (.bool true) ?_
  simp only [nf0, nf1, nf2, nf3, nf4]
  refine wpList_nil ?_
  show Code.wp _ _ _ _ _
  refine wp_ret ?_
  first | show bodyPost _ _ _ _ _ _ | (simp only [Exit.then, Exit.inBlock]; show bodyPost _ _ _ _ _ _)
  exact bodyPost_ret (results_tmp rfl _ _ _) rfl ⟨rfl, bel⟩
end Go.Proofs.Ytdhhcjhinpmeeaa
