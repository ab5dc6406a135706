/- What the law DescNames does. -/
import Derived.Test.YtkebpmcgmmhifaaDescNamesW
namespace Go.Proofs.Ytkebpmcgmmhifaa
open Go.RowKit Go.WideShapes Go.ChangeShapes
set_option linter.unusedSimpArgs false
set_option linter.unusedVariables false

theorem k_run_call_8_1 {o : Oper} {a : Act} (x0 : Operand) {ts : Array TypeId} (ho : o.op = .call { callee := .value (.func 8), args := #[x0], argTypes := ts }) {v0 : Value} (h0 : a.eval x0 = v0) (W : World) : (execOp a.eval o).run Try.prog W = .ok (.enter 8 #[v0]) W := by
  unfold execOp
  simp only [ho]
  subst h0
  go_simp
theorem k_run_call_12_2 {o : Oper} {a : Act} (x0 : Operand) (x1 : Operand) {ts : Array TypeId} (ho : o.op = .call { callee := .value (.func 12), args := #[x0, x1], argTypes := ts }) {v0 : Value} (h0 : a.eval x0 = v0) {v1 : Value} (h1 : a.eval x1 = v1) (W : World) : (execOp a.eval o).run Try.prog W = .ok (.enter 12 #[v0, v1]) W := by
  unfold execOp
  simp only [ho]
  subst h0 h1
  go_simp
theorem k_run_call_13_0 {o : Oper} {a : Act}  {ts : Array TypeId} (ho : o.op = .call { callee := .value (.func 13), args := #[], argTypes := ts })  (W : World) : (execOp a.eval o).run Try.prog W = .ok (.enter 13 #[]) W := by
  unfold execOp
  simp only [ho]
  go_simp
theorem k_run_call_14_1 {o : Oper} {a : Act} (x0 : Operand) {ts : Array TypeId} (ho : o.op = .call { callee := .value (.func 14), args := #[x0], argTypes := ts }) {v0 : Value} (h0 : a.eval x0 = v0) (W : World) : (execOp a.eval o).run Try.prog W = .ok (.enter 14 #[v0]) W := by
  unfold execOp
  simp only [ho]
  subst h0
  go_simp
theorem k_run_call_15_1 {o : Oper} {a : Act} (x0 : Operand) {ts : Array TypeId} (ho : o.op = .call { callee := .value (.func 15), args := #[x0], argTypes := ts }) {v0 : Value} (h0 : a.eval x0 = v0) (W : World) : (execOp a.eval o).run Try.prog W = .ok (.enter 15 #[v0]) W := by
  unfold execOp
  simp only [ho]
  subst h0
  go_simp
theorem k_run_call_16_1 {o : Oper} {a : Act} (x0 : Operand) {ts : Array TypeId} (ho : o.op = .call { callee := .value (.func 16), args := #[x0], argTypes := ts }) {v0 : Value} (h0 : a.eval x0 = v0) (W : World) : (execOp a.eval o).run Try.prog W = .ok (.enter 16 #[v0]) W := by
  unfold execOp
  simp only [ho]
  subst h0
  go_simp
theorem k_run_call_17_1 {o : Oper} {a : Act} (x0 : Operand) {ts : Array TypeId} (ho : o.op = .call { callee := .value (.func 17), args := #[x0], argTypes := ts }) {v0 : Value} (h0 : a.eval x0 = v0) (W : World) : (execOp a.eval o).run Try.prog W = .ok (.enter 17 #[v0]) W := by
  unfold execOp
  simp only [ho]
  subst h0
  go_simp
theorem k_run_call_18_2 {o : Oper} {a : Act} (x0 : Operand) (x1 : Operand) {ts : Array TypeId} (ho : o.op = .call { callee := .value (.func 18), args := #[x0, x1], argTypes := ts }) {v0 : Value} (h0 : a.eval x0 = v0) {v1 : Value} (h1 : a.eval x1 = v1) (W : World) : (execOp a.eval o).run Try.prog W = .ok (.enter 18 #[v0, v1]) W := by
  unfold execOp
  simp only [ho]
  subst h0 h1
  go_simp

attribute [local irreducible] Go.wpList Go.Code.wp
set_option maxRecDepth 100000 in
set_option maxHeartbeats 4000000 in
theorem descNames_calls (l : List UInt8) (off : Int) (w : World) : Calls Try.prog 5 #[.string (str l), .int .i64 off] w fun e w' => e = .returned (.bool true) ∧ Below w.heap.size w w' := by
  have bel : Below w.heap.size w w := Below.refl _ _
  have hz : (l.take 2000).length ≤ 2000 := by rw [List.length_take]; omega
  go_enter Try.func5, Try.ntmps5
  refine wp_seq ?_
  refine wp_region_lit ?_
  refine st_mv (.bool false) ?_
  simp only [nf0, nf1, nf2, nf3, nf4]
  refine wpList_nil ?_
  show Code.wp _ _ _ _ _
  refine wp_seq ?_
  refine wp_region_lit ?_
  refine st_mv (.string (str l)) ?_
  simp only [nf0, nf1, nf2, nf3, nf4]
  refine st_call1 (v := (.string (str (l.take 2000)))) (by rfl) (k_run_call_8_1 (.tmp 5) rfl rfl _) (cut_calls l w) ?_
  intro w1 hb2
  simp only [nf0, nf1, nf2, nf3, nf4]
  replace bel := bl_step bel hb2
  clear hb2
  refine st_mv (.string (str (l.take 2000))) ?_
  simp only [nf0, nf1, nf2, nf3, nf4]
  refine wpList_nil ?_
  show Code.wp _ _ _ _ _
  refine wp_seq ?_
  refine wp_region_lit ?_
  refine st_mv (.string (str (l.take 2000))) ?_
  simp only [nf0, nf1, nf2, nf3, nf4]
  refine st_call1 (v := (.bool (isNameL (l.take 2000)))) (by rfl) (k_run_call_14_1 (.tmp 7) rfl rfl _) (isName_calls (l.take 2000) (by omega) w1) ?_
  intro w3 hb4
  simp only [nf0, nf1, nf2, nf3, nf4]
  replace bel := bl_step bel hb4
  clear hb4
  refine st_mv (.string (str (l.take 2000))) ?_
  simp only [nf0, nf1, nf2, nf3, nf4]
  refine st_call1 (v := (.bool (isNameL (l.take 2000)))) (by rfl) (k_run_call_15_1 (.tmp 9) rfl rfl _) (isNameR_calls (l.take 2000) (by omega) w3) ?_
  intro w5 hb6
  simp only [nf0, nf1, nf2, nf3, nf4]
  replace bel := bl_step bel hb6
  clear hb6
  refine st_value (v := (.bool true)) (by rfl) ((runm_eql_bool (.tmp 8) (.tmp 10) rfl Try.underlying4 (b := isNameL (l.take 2000)) (c := isNameL (l.take 2000)) rfl rfl w5).trans (by rw [beq_self_eq_true])) ?_
  simp only [nf0, nf1, nf2, nf3, nf4]
  refine st_mv (.bool true) ?_
  simp only [nf0, nf1, nf2, nf3, nf4]
  refine st_mv (.string (str (l.take 2000))) ?_
  simp only [nf0, nf1, nf2, nf3, nf4]
  refine st_call1 (v := (.bool (isWordL (l.take 2000)))) (by rfl) (k_run_call_16_1 (.tmp 13) rfl rfl _) (isWord_calls (l.take 2000) w5) ?_
  intro w7 hb8
  simp only [nf0, nf1, nf2, nf3, nf4]
  replace bel := bl_step bel hb8
  clear hb8
  refine st_mv (.string (str (l.take 2000))) ?_
  simp only [nf0, nf1, nf2, nf3, nf4]
  refine st_call1 (v := (.bool (isWordL (l.take 2000)))) (by rfl) (k_run_call_17_1 (.tmp 15) rfl rfl _) (isWordR_calls (l.take 2000) w7) ?_
  intro w9 hb10
  simp only [nf0, nf1, nf2, nf3, nf4]
  replace bel := bl_step bel hb10
  clear hb10
  refine st_value (v := (.bool true)) (by rfl) ((runm_eql_bool (.tmp 14) (.tmp 16) rfl Try.underlying4 (b := isWordL (l.take 2000)) (c := isWordL (l.take 2000)) rfl rfl w9).trans (by rw [beq_self_eq_true])) ?_
  simp only [nf0, nf1, nf2, nf3, nf4]
  refine st_mv (.bool true) ?_
  simp only [nf0, nf1, nf2, nf3, nf4]
  refine st_mv (.bool true) ?_
  simp only [nf0, nf1, nf2, nf3, nf4]
  refine st_mv (.string (str (l.take 2000))) ?_
  simp only [nf0, nf1, nf2, nf3, nf4]
  refine st_mv (.int .i64 off) ?_
  simp only [nf0, nf1, nf2, nf3, nf4]
  refine st_call1 (v := (.agg #[.int .i64 ((plc (l.take 2000) (clampN off (l.take 2000).length)).1), .int .i64 ((plc (l.take 2000) (clampN off (l.take 2000).length)).2.1), .int .i64 ((plc (l.take 2000) (clampN off (l.take 2000).length)).2.2)])) (by rfl) (k_run_call_18_2 (.tmp 20) (.tmp 21) rfl rfl rfl _) (desAt_calls (l.take 2000) off (by omega) w9) ?_
  intro w11 hb12
  simp only [nf0, nf1, nf2, nf3, nf4]
  replace bel := bl_step bel hb12
  clear hb12
  refine st_mv (.string (str (l.take 2000))) ?_
  simp only [nf0, nf1, nf2, nf3, nf4]
  refine st_mv (.int .i64 off) ?_
  simp only [nf0, nf1, nf2, nf3, nf4]
  refine st_call1 (v := (.agg #[.int .i64 ((plc (l.take 2000) (clampN off (l.take 2000).length)).1), .int .i64 ((plc (l.take 2000) (clampN off (l.take 2000).length)).2.1), .int .i64 ((plc (l.take 2000) (clampN off (l.take 2000).length)).2.2)])) (by rfl) (k_run_call_12_2 (.tmp 23) (.tmp 24) rfl rfl rfl _) (refAt_calls (l := (l.take 2000)) off (by omega) w11) ?_
  intro w13 hb14
  simp only [nf0, nf1, nf2, nf3, nf4]
  replace bel := bl_step bel hb14
  clear hb14
  refine st_value (v := (.bool true)) (by rfl) ((run_eql_agg (.tmp 22) (.tmp 25) rfl eqPl (p := (plc (l.take 2000) (clampN off (l.take 2000).length))) (q := (plc (l.take 2000) (clampN off (l.take 2000).length))) rfl rfl trivial trivial w13).trans (by rw [decide_eq_true rfl])) ?_
  simp only [nf0, nf1, nf2, nf3, nf4]
  refine st_mv (.bool true) ?_
  simp only [nf0, nf1, nf2, nf3, nf4]
  refine st_mv (.bool true) ?_
  simp only [nf0, nf1, nf2, nf3, nf4]
  refine st_call1 (v := (.bool true)) (by rfl) (k_run_call_13_0  rfl  _) (descLives_calls w13) ?_
  intro w15 hb16
  simp only [nf0, nf1, nf2, nf3, nf4]
  replace bel := bl_step bel hb16
  clear hb16
  refine st_mv (.bool true) ?_
  simp only [nf0, nf1, nf2, nf3, nf4]
  refine st_mv (.bool true) ?_
  simp only [nf0, nf1, nf2, nf3, nf4]
  refine wpList_nil ?_
  show Code.wp _ _ _ _ _
  refine wp_ret ?_
  first | show bodyPost _ _ _ _ _ _ | (simp only [Exit.then, Exit.inBlock]; show bodyPost _ _ _ _ _ _)
  exact bodyPost_ret (results_tmp rfl _ _ _) rfl ⟨rfl, bel⟩
end Go.Proofs.Ytkebpmcgmmhifaa
