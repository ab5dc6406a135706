/- Names, words, places. -/
import Derived.Test.YtkebpmcgmmhifaaDescLib
namespace Go.Proofs.Ytkebpmcgmmhifaa
open Go.RowKit Go.WideShapes Go.ChangeShapes
set_option linter.unusedSimpArgs false
set_option linter.unusedVariables false

theorem j_run_call_16_1 {o : Oper} {a : Act} (x0 : Operand) {ts : Array TypeId} (ho : o.op = .call { callee := .value (.func 16), args := #[x0], argTypes := ts }) {v0 : Value} (h0 : a.eval x0 = v0) (W : World) : (execOp a.eval o).run Try.prog W = .ok (.enter 16 #[v0]) W := by
  unfold execOp
  simp only [ho]
  subst h0
  go_simp
theorem j_run_call_23_1 {o : Oper} {a : Act} (x0 : Operand) {ts : Array TypeId} (ho : o.op = .call { callee := .value (.func 23), args := #[x0], argTypes := ts }) {v0 : Value} (h0 : a.eval x0 = v0) (W : World) : (execOp a.eval o).run Try.prog W = .ok (.enter 23 #[v0]) W := by
  unfold execOp
  simp only [ho]
  subst h0
  go_simp
theorem j_run_call_24_1 {o : Oper} {a : Act} (x0 : Operand) {ts : Array TypeId} (ho : o.op = .call { callee := .value (.func 24), args := #[x0], argTypes := ts }) {v0 : Value} (h0 : a.eval x0 = v0) (W : World) : (execOp a.eval o).run Try.prog W = .ok (.enter 24 #[v0]) W := by
  unfold execOp
  simp only [ho]
  subst h0
  go_simp
theorem j_run_call_17_1 {o : Oper} {a : Act} (x0 : Operand) {ts : Array TypeId} (ho : o.op = .call { callee := .value (.func 17), args := #[x0], argTypes := ts }) {v0 : Value} (h0 : a.eval x0 = v0) (W : World) : (execOp a.eval o).run Try.prog W = .ok (.enter 17 #[v0]) W := by
  unfold execOp
  simp only [ho]
  subst h0
  go_simp
theorem j_run_call_22_1 {o : Oper} {a : Act} (x0 : Operand) {ts : Array TypeId} (ho : o.op = .call { callee := .value (.func 22), args := #[x0], argTypes := ts }) {v0 : Value} (h0 : a.eval x0 = v0) (W : World) : (execOp a.eval o).run Try.prog W = .ok (.enter 22 #[v0]) W := by
  unfold execOp
  simp only [ho]
  subst h0
  go_simp
theorem j_run_call_40_2 {o : Oper} {a : Act} (x0 : Operand) (x1 : Operand) {ts : Array TypeId} (ho : o.op = .call { callee := .value (.func 40), args := #[x0, x1], argTypes := ts }) {v0 : Value} (h0 : a.eval x0 = v0) {v1 : Value} (h1 : a.eval x1 = v1) (W : World) : (execOp a.eval o).run Try.prog W = .ok (.enter 40 #[v0, v1]) W := by
  unfold execOp
  simp only [ho]
  subst h0 h1
  go_simp
theorem j_zero_26 : ZeroOf Try.prog 26 #[.int .i64 0, .int .i64 0, .int .i64 0] := zeroOf (z := .agg #[.int .i64 0, .int .i64 0, .int .i64 0]) (by kernel_rfl) rfl
theorem j_run_call_25_2 {o : Oper} {a : Act} (x0 : Operand) (x1 : Operand) {ts : Array TypeId} (ho : o.op = .call { callee := .value (.func 25), args := #[x0, x1], argTypes := ts }) {v0 : Value} (h0 : a.eval x0 = v0) {v1 : Value} (h1 : a.eval x1 = v1) (W : World) : (execOp a.eval o).run Try.prog W = .ok (.enter 25 #[v0, v1]) W := by
  unfold execOp
  simp only [ho]
  subst h0 h1
  go_simp
theorem j_run_call_26_2 {o : Oper} {a : Act} (x0 : Operand) (x1 : Operand) {ts : Array TypeId} (ho : o.op = .call { callee := .value (.func 26), args := #[x0, x1], argTypes := ts }) {v0 : Value} (h0 : a.eval x0 = v0) {v1 : Value} (h1 : a.eval x1 = v1) (W : World) : (execOp a.eval o).run Try.prog W = .ok (.enter 26 #[v0, v1]) W := by
  unfold execOp
  simp only [ho]
  subst h0 h1
  go_simp
theorem at_eq {l : List UInt8} {c : Nat} {r : Int} (h1 : (lnS l c).1 = (l.take c).count 10 + 1) (h2 : (((lnS l c).2 : Nat) : Int) = r + 1) : (ePl.enc (plc l c)).toArray = #[.int .i64 (c : Int), .int .i64 (1 + (((l.take c).count 10 : Nat) : Int)), .int .i64 ((c : Int) - r)] := by
  unfold plc ePl
  simp only
  rw [h1, h2, show ((((l.take c).count 10 + 1 : Nat) : Int)) = 1 + (((l.take c).count 10 : Nat) : Int) by omega, show (c : Int) - (r + 1) + 1 = (c : Int) - r by omega]

attribute [local irreducible] Go.wpList Go.Code.wp
set_option maxRecDepth 100000 in
set_option maxHeartbeats 4000000 in
theorem isWord_calls (l : List UInt8) (w : World) : Calls Try.prog 16 #[.string (str l)] w fun e w' => e = .returned (.bool (isWordL l)) ∧ Below w.heap.size w w' := by
  have bel : Below w.heap.size w w := Below.refl _ _
  go_enter Try.func16, Try.ntmps16
  refine wp_seq ?_
  refine wp_region_lit ?_
  refine st_mv (.bool false) ?_
  simp only [nf0, nf1, nf2, nf3, nf4]
  refine wpList_nil ?_
  show Code.wp _ _ _ _ _
  refine wp_seq ?_
  cases hg1 : decide (l = [100, 111, 109, 97, 105, 110])
  rotate_left
  · have hp6 := of_decide_eq_true hg1
    refine wp_region_lit ?_
    refine st_mv (.string (str l)) ?_
    simp only [nf0, nf1, nf2, nf3, nf4]
    refine st_value (v := (.bool true)) (by rfl) ((run_eql_text (.tmp 3) (.const (.string ⟨#[100, 111, 109, 97, 105, 110]⟩)) (l := l) (m := [100, 111, 109, 97, 105, 110]) rfl rfl rfl w).trans (by rw [hg1])) ?_
    simp only [nf0, nf1, nf2, nf3, nf4]
    refine st_mv (.bool true) ?_
    simp only [nf0, nf1, nf2, nf3, nf4]
    refine st_nob (j := 2) (t := 5) (c := true) rfl rfl rfl rfl rfl ?_
    simp only [nf0, nf1, nf2, nf3, nf4]
    refine st_nob (j := 2) (t := 5) (c := true) rfl rfl rfl rfl rfl ?_
    simp only [nf0, nf1, nf2, nf3, nf4]
    refine st_mv (.bool true) ?_
    simp only [nf0, nf1, nf2, nf3, nf4]
    refine st_mv (.bool true) ?_
    simp only [nf0, nf1, nf2, nf3, nf4]
    refine st_nob (j := 6) (t := 9) (c := true) rfl rfl rfl rfl rfl ?_
    simp only [nf0, nf1, nf2, nf3, nf4]
    refine st_nob (j := 6) (t := 9) (c := true) rfl rfl rfl rfl rfl ?_
    simp only [nf0, nf1, nf2, nf3, nf4]
    refine st_mv (.bool true) ?_
    simp only [nf0, nf1, nf2, nf3, nf4]
    refine st_mv (.bool true) ?_
    simp only [nf0, nf1, nf2, nf3, nf4]
    refine wpList_nil ?_
    show Code.wp _ _ _ _ _
    refine wp_ret ?_
    first | show bodyPost _ _ _ _ _ _ | (simp only [Exit.then, Exit.inBlock]; show bodyPost _ _ _ _ _ _)
    have hE : isWordL l = true := by
      unfold isWordL
      first | exact decide_eq_true (by simp_all) | exact decide_eq_false (by simp_all) | (rw [decide_eq_decide]; simp_all)
    exact bodyPost_ret (results_tmp rfl _ _ _) rfl ⟨by rw [hE]; rfl, bel⟩
  have hp2 := of_decide_eq_false hg1
  cases hg3 : decide (l = [113, 117, 101, 117, 101])
  · have hp4 := of_decide_eq_false hg3
    refine wp_region_lit ?_
    refine st_mv (.string (str l)) ?_
    simp only [nf0, nf1, nf2, nf3, nf4]
    refine st_value (v := (.bool false)) (by rfl) ((run_eql_text (.tmp 3) (.const (.string ⟨#[100, 111, 109, 97, 105, 110]⟩)) (l := l) (m := [100, 111, 109, 97, 105, 110]) rfl rfl rfl w).trans (by rw [hg1])) ?_
    simp only [nf0, nf1, nf2, nf3, nf4]
    refine st_mv (.bool false) ?_
    simp only [nf0, nf1, nf2, nf3, nf4]
    refine st_mv (.string (str l)) ?_
    simp only [nf0, nf1, nf2, nf3, nf4]
    refine st_value (v := (.bool false)) (by rfl) ((run_eql_text (.tmp 6) (.const (.string ⟨#[113, 117, 101, 117, 101]⟩)) (l := l) (m := [113, 117, 101, 117, 101]) rfl rfl rfl w).trans (by rw [hg3])) ?_
    simp only [nf0, nf1, nf2, nf3, nf4]
    refine st_mv (.bool false) ?_
    simp only [nf0, nf1, nf2, nf3, nf4]
    refine st_mv (.bool false) ?_
    simp only [nf0, nf1, nf2, nf3, nf4]
    refine st_mv (.string (str l)) ?_
    simp only [nf0, nf1, nf2, nf3, nf4]
    refine st_value (v := (.bool (decide (l = [99, 112, 117, 115])))) (by rfl) (run_eql_text (.tmp 10) (.const (.string ⟨#[99, 112, 117, 115]⟩)) (l := l) (m := [99, 112, 117, 115]) rfl rfl rfl w) ?_
    simp only [nf0, nf1, nf2, nf3, nf4]
    refine st_mv (.bool (decide (l = [99, 112, 117, 115]))) ?_
    simp only [nf0, nf1, nf2, nf3, nf4]
    refine st_mv (.bool (decide (l = [99, 112, 117, 115]))) ?_
    simp only [nf0, nf1, nf2, nf3, nf4]
    refine wpList_nil ?_
    show Code.wp _ _ _ _ _
    refine wp_ret ?_
    first | show bodyPost _ _ _ _ _ _ | (simp only [Exit.then, Exit.inBlock]; show bodyPost _ _ _ _ _ _)
    have hE : isWordL l = decide (l = [99, 112, 117, 115]) := by
      unfold isWordL
      first | exact decide_eq_true (by simp_all) | exact decide_eq_false (by simp_all) | (rw [decide_eq_decide]; simp_all)
    exact bodyPost_ret (results_tmp rfl _ _ _) rfl ⟨by rw [hE]; rfl, bel⟩
  have hp5 := of_decide_eq_true hg3
  refine wp_region_lit ?_
  refine st_mv (.string (str l)) ?_
  simp only [nf0, nf1, nf2, nf3, nf4]
  refine st_value (v := (.bool false)) (by rfl) ((run_eql_text (.tmp 3) (.const (.string ⟨#[100, 111, 109, 97, 105, 110]⟩)) (l := l) (m := [100, 111, 109, 97, 105, 110]) rfl rfl rfl w).trans (by rw [hg1])) ?_
  simp only [nf0, nf1, nf2, nf3, nf4]
  refine st_mv (.bool false) ?_
  simp only [nf0, nf1, nf2, nf3, nf4]
  refine st_mv (.string (str l)) ?_
  simp only [nf0, nf1, nf2, nf3, nf4]
  refine st_value (v := (.bool true)) (by rfl) ((run_eql_text (.tmp 6) (.const (.string ⟨#[113, 117, 101, 117, 101]⟩)) (l := l) (m := [113, 117, 101, 117, 101]) rfl rfl rfl w).trans (by rw [hg3])) ?_
  simp only [nf0, nf1, nf2, nf3, nf4]
  refine st_mv (.bool true) ?_
  simp only [nf0, nf1, nf2, nf3, nf4]
  refine st_mv (.bool true) ?_
  simp only [nf0, nf1, nf2, nf3, nf4]
  refine st_nob (j := 6) (t := 9) (c := true) rfl rfl rfl rfl rfl ?_
  simp only [nf0, nf1, nf2, nf3, nf4]
  refine st_nob (j := 6) (t := 9) (c := true) rfl rfl rfl rfl rfl ?_
  simp only [nf0, nf1, nf2, nf3, nf4]
  refine st_mv (.bool true) ?_
  simp only [nf0, nf1, nf2, nf3, nf4]
  refine st_mv (.bool true) ?_
  simp only [nf0, nf1, nf2, nf3, nf4]
  refine wpList_nil ?_
  show Code.wp _ _ _ _ _
  refine wp_ret ?_
  first | show bodyPost _ _ _ _ _ _ | (simp only [Exit.then, Exit.inBlock]; show bodyPost _ _ _ _ _ _)
  have hE : isWordL l = true := by
    unfold isWordL
    first | exact decide_eq_true (by simp_all) | exact decide_eq_false (by simp_all) | (rw [decide_eq_decide]; simp_all)
  exact bodyPost_ret (results_tmp rfl _ _ _) rfl ⟨by rw [hE]; rfl, bel⟩
set_option maxRecDepth 100000 in
set_option maxHeartbeats 4000000 in
theorem isWordR_calls (l : List UInt8) (w : World) : Calls Try.prog 17 #[.string (str l)] w fun e w' => e = .returned (.bool (isWordL l)) ∧ Below w.heap.size w w' := by
  have bel : Below w.heap.size w w := Below.refl _ _
  go_enter Try.func17, Try.ntmps17
  refine wp_seq ?_
  refine wp_region_lit ?_
  refine st_mv (.bool false) ?_
  simp only [nf0, nf1, nf2, nf3, nf4]
  refine wpList_nil ?_
  show Code.wp _ _ _ _ _
  refine wp_seq ?_
  cases hg1 : decide (l = [100, 111, 109, 97, 105, 110])
  rotate_left
  · have hp6 := of_decide_eq_true hg1
    refine wp_region_lit ?_
    refine st_mv (.string (str l)) ?_
    simp only [nf0, nf1, nf2, nf3, nf4]
    refine st_value (v := (.bool true)) (by rfl) ((run_eql_text (.tmp 3) (.const (.string ⟨#[100, 111, 109, 97, 105, 110]⟩)) (l := l) (m := [100, 111, 109, 97, 105, 110]) rfl rfl rfl w).trans (by rw [hg1])) ?_
    simp only [nf0, nf1, nf2, nf3, nf4]
    refine st_mv (.bool true) ?_
    simp only [nf0, nf1, nf2, nf3, nf4]
    refine st_nob (j := 2) (t := 5) (c := true) rfl rfl rfl rfl rfl ?_
    simp only [nf0, nf1, nf2, nf3, nf4]
    refine st_nob (j := 2) (t := 5) (c := true) rfl rfl rfl rfl rfl ?_
    simp only [nf0, nf1, nf2, nf3, nf4]
    refine st_mv (.bool true) ?_
    simp only [nf0, nf1, nf2, nf3, nf4]
    refine st_mv (.bool true) ?_
    simp only [nf0, nf1, nf2, nf3, nf4]
    refine st_nob (j := 6) (t := 9) (c := true) rfl rfl rfl rfl rfl ?_
    simp only [nf0, nf1, nf2, nf3, nf4]
    refine st_nob (j := 6) (t := 9) (c := true) rfl rfl rfl rfl rfl ?_
    simp only [nf0, nf1, nf2, nf3, nf4]
    refine st_mv (.bool true) ?_
    simp only [nf0, nf1, nf2, nf3, nf4]
    refine st_mv (.bool true) ?_
    simp only [nf0, nf1, nf2, nf3, nf4]
    refine wpList_nil ?_
    show Code.wp _ _ _ _ _
    refine wp_ret ?_
    first | show bodyPost _ _ _ _ _ _ | (simp only [Exit.then, Exit.inBlock]; show bodyPost _ _ _ _ _ _)
    have hE : isWordL l = true := by
      unfold isWordL
      first | exact decide_eq_true (by simp_all) | exact decide_eq_false (by simp_all) | (rw [decide_eq_decide]; simp_all)
    exact bodyPost_ret (results_tmp rfl _ _ _) rfl ⟨by rw [hE]; rfl, bel⟩
  have hp2 := of_decide_eq_false hg1
  cases hg3 : decide (l = [113, 117, 101, 117, 101])
  · have hp4 := of_decide_eq_false hg3
    refine wp_region_lit ?_
    refine st_mv (.string (str l)) ?_
    simp only [nf0, nf1, nf2, nf3, nf4]
    refine st_value (v := (.bool false)) (by rfl) ((run_eql_text (.tmp 3) (.const (.string ⟨#[100, 111, 109, 97, 105, 110]⟩)) (l := l) (m := [100, 111, 109, 97, 105, 110]) rfl rfl rfl w).trans (by rw [hg1])) ?_
    simp only [nf0, nf1, nf2, nf3, nf4]
    refine st_mv (.bool false) ?_
    simp only [nf0, nf1, nf2, nf3, nf4]
    refine st_mv (.string (str l)) ?_
    simp only [nf0, nf1, nf2, nf3, nf4]
    refine st_value (v := (.bool false)) (by rfl) ((run_eql_text (.tmp 6) (.const (.string ⟨#[113, 117, 101, 117, 101]⟩)) (l := l) (m := [113, 117, 101, 117, 101]) rfl rfl rfl w).trans (by rw [hg3])) ?_
    simp only [nf0, nf1, nf2, nf3, nf4]
    refine st_mv (.bool false) ?_
    simp only [nf0, nf1, nf2, nf3, nf4]
    refine st_mv (.bool false) ?_
    simp only [nf0, nf1, nf2, nf3, nf4]
    refine st_mv (.string (str l)) ?_
    simp only [nf0, nf1, nf2, nf3, nf4]
    refine st_value (v := (.bool (decide (l = [99, 112, 117, 115])))) (by rfl) (run_eql_text (.tmp 10) (.const (.string ⟨#[99, 112, 117, 115]⟩)) (l := l) (m := [99, 112, 117, 115]) rfl rfl rfl w) ?_
    simp only [nf0, nf1, nf2, nf3, nf4]
    refine st_mv (.bool (decide (l = [99, 112, 117, 115]))) ?_
    simp only [nf0, nf1, nf2, nf3, nf4]
    refine st_mv (.bool (decide (l = [99, 112, 117, 115]))) ?_
    simp only [nf0, nf1, nf2, nf3, nf4]
    refine wpList_nil ?_
    show Code.wp _ _ _ _ _
    refine wp_ret ?_
    first | show bodyPost _ _ _ _ _ _ | (simp only [Exit.then, Exit.inBlock]; show bodyPost _ _ _ _ _ _)
    have hE : isWordL l = decide (l = [99, 112, 117, 115]) := by
      unfold isWordL
      first | exact decide_eq_true (by simp_all) | exact decide_eq_false (by simp_all) | (rw [decide_eq_decide]; simp_all)
    exact bodyPost_ret (results_tmp rfl _ _ _) rfl ⟨by rw [hE]; rfl, bel⟩
  have hp5 := of_decide_eq_true hg3
  refine wp_region_lit ?_
  refine st_mv (.string (str l)) ?_
  simp only [nf0, nf1, nf2, nf3, nf4]
  refine st_value (v := (.bool false)) (by rfl) ((run_eql_text (.tmp 3) (.const (.string ⟨#[100, 111, 109, 97, 105, 110]⟩)) (l := l) (m := [100, 111, 109, 97, 105, 110]) rfl rfl rfl w).trans (by rw [hg1])) ?_
  simp only [nf0, nf1, nf2, nf3, nf4]
  refine st_mv (.bool false) ?_
  simp only [nf0, nf1, nf2, nf3, nf4]
  refine st_mv (.string (str l)) ?_
  simp only [nf0, nf1, nf2, nf3, nf4]
  refine st_value (v := (.bool true)) (by rfl) ((run_eql_text (.tmp 6) (.const (.string ⟨#[113, 117, 101, 117, 101]⟩)) (l := l) (m := [113, 117, 101, 117, 101]) rfl rfl rfl w).trans (by rw [hg3])) ?_
  simp only [nf0, nf1, nf2, nf3, nf4]
  refine st_mv (.bool true) ?_
  simp only [nf0, nf1, nf2, nf3, nf4]
  refine st_mv (.bool true) ?_
  simp only [nf0, nf1, nf2, nf3, nf4]
  refine st_nob (j := 6) (t := 9) (c := true) rfl rfl rfl rfl rfl ?_
  simp only [nf0, nf1, nf2, nf3, nf4]
  refine st_nob (j := 6) (t := 9) (c := true) rfl rfl rfl rfl rfl ?_
  simp only [nf0, nf1, nf2, nf3, nf4]
  refine st_mv (.bool true) ?_
  simp only [nf0, nf1, nf2, nf3, nf4]
  refine st_mv (.bool true) ?_
  simp only [nf0, nf1, nf2, nf3, nf4]
  refine wpList_nil ?_
  show Code.wp _ _ _ _ _
  refine wp_ret ?_
  first | show bodyPost _ _ _ _ _ _ | (simp only [Exit.then, Exit.inBlock]; show bodyPost _ _ _ _ _ _)
  have hE : isWordL l = true := by
    unfold isWordL
    first | exact decide_eq_true (by simp_all) | exact decide_eq_false (by simp_all) | (rw [decide_eq_decide]; simp_all)
  exact bodyPost_ret (results_tmp rfl _ _ _) rfl ⟨by rw [hE]; rfl, bel⟩
set_option maxRecDepth 100000 in
set_option maxHeartbeats 4000000 in
theorem isName_calls (l : List UInt8) (hl : l.length ≤ 1000000) (w : World) : Calls Try.prog 14 #[.string (str l)] w fun e w' => e = .returned (.bool (isNameL l)) ∧ Below w.heap.size w w' := by
  have bel : Below w.heap.size w w := Below.refl _ _
  go_enter Try.func14, Try.ntmps14
  refine wp_seq ?_
  refine wp_region_lit ?_
  refine st_mv (.bool false) ?_
  simp only [nf0, nf1, nf2, nf3, nf4]
  refine wpList_nil ?_
  show Code.wp _ _ _ _ _
  refine wp_seq ?_
  refine wp_seq ?_
  refine wp_region_lit ?_
  refine st_mv (.string (str l)) ?_
  simp only [nf0, nf1, nf2, nf3, nf4]
  refine st_value (v := (.int .i64 (l.length : Int))) (by rfl) (run_len_text (.tmp 4) rfl Try.underlying9 (l := l) rfl w) ?_
  simp only [nf0, nf1, nf2, nf3, nf4]
  refine st_mv (.int .i64 0) ?_
  simp only [nf0, nf1, nf2, nf3, nf4]
  refine wpList_nil ?_
  show Code.wp _ _ _ _ _
  refine wp_block ?_
  refine wp_loop_left (fun n_ a_ wr_ => (fun J1 => ∃ (k : Nat), n_ = l.length - k ∧ a_ = ⟨#[.string (str l), J1 1, J1 2, J1 3, J1 4, .int .i64 (l.length : Int), .int .i64 (k : Int), J1 7, J1 8, J1 9, J1 10, J1 11, J1 12, J1 13, J1 14, J1 15, J1 16, J1 17, J1 18, J1 19, J1 20, J1 21, J1 22, J1 23, J1 24, J1 25, J1 26, J1 27, J1 28, J1 29, J1 30, J1 31, J1 32], []⟩ ∧ Below w.heap.size w wr_ ∧ (k ≤ l.length) ∧ (∀ j, j < k → inW (chr l j) = true)) (jk a_)) (l.length - 0) ⟨0, rfl, rfl, bel, (Nat.zero_le _), (fun j h => absurd h (Nat.not_lt_zero _))⟩ ?_
  clear bel
  intro n_ a_ w2 h_
  revert h_
  generalize jk a_ = J1
  rintro ⟨k, hms, rfl, bel, hk, hS⟩
  refine wp_seq ?_
  refine wp_region_lit ?_
  refine st_value (v := (.bool (decide ((k : Int) < (l.length : Int))))) (by rfl) (run_lss (.tmp 6) (.tmp 5) rfl rfl rfl w2) ?_
  simp only [nf0, nf1, nf2, nf3, nf4]
  refine wpList_nil ?_
  show Code.wp _ _ _ _ _
  refine wp_seq ?_
  cases hg3 : decide ((k : Int) < (l.length : Int))
  rotate_left
  · have hp22 := of_decide_eq_true hg3
    refine wp_cond_true rfl ?_
    refine wp_skip ?_
    show Code.wp _ _ _ _ _
    refine wp_seq ?_
    refine wp_block ?_
    refine wp_seq ?_
    refine wp_region_lit ?_
    refine st_mv (.int .i64 (k : Int)) ?_
    simp only [nf0, nf1, nf2, nf3, nf4]
    refine st_mv (.int .i64 (k : Int)) ?_
    simp only [nf0, nf1, nf2, nf3, nf4]
    refine wpList_nil ?_
    show Code.wp _ _ _ _ _
    refine wp_seq ?_
    refine wp_region_lit ?_
    refine st_mv (.string (str l)) ?_
    simp only [nf0, nf1, nf2, nf3, nf4]
    refine st_mv (.int .i64 (k : Int)) ?_
    simp only [nf0, nf1, nf2, nf3, nf4]
    refine st_value (v := (.int .u8 (chr l k))) (by rfl) (run_index_text (.tmp 9) (.tmp 10) rfl Try.underlying9 (l := l) rfl rfl k (by omega) (by omega) w2) ?_
    simp only [nf0, nf1, nf2, nf3, nf4]
    refine st_call1 (v := (.bool (inW (chr l k)))) (by rfl) (j_run_call_23_1 (.tmp 11) rfl rfl _) (inWord_calls (chr l k) w2) ?_
    intro w23 hb24
    simp only [nf0, nf1, nf2, nf3, nf4]
    replace bel := bl_step bel hb24
    clear hb24
    refine st_value (v := (.bool (!(inW (chr l k))))) (by rfl) (run_not (.tmp 12) rfl (b := inW (chr l k)) rfl w23) ?_
    simp only [nf0, nf1, nf2, nf3, nf4]
    refine wpList_nil ?_
    show Code.wp _ _ _ _ _
    cases hg25 : inW (chr l k)
    rotate_left
    · have hp27 := trivial
      refine wp_cond_false rfl ?_
      refine wp_skip ?_
      show Code.wp _ _ _ _ _
      refine wp_region_lit ?_
      refine st_value (v := (.int .i64 ((k : Int) + 1))) (by rfl) (run_add_in (.tmp 6) (.const (.int .i64 1)) rfl rfl rfl (by omega) w23) ?_
      simp only [nf0, nf1, nf2, nf3, nf4]
      refine st_mv (.int .i64 ((k : Int) + 1)) ?_
      simp only [nf0, nf1, nf2, nf3, nf4]
      refine wpList_nil ?_
      show ∃ m, m < _ ∧ _
      exact ⟨_, (by omega), (k + 1), rfl, rfl, bel, (by omega), (fun j h => by rcases Nat.lt_or_ge j k with g | g; exact hS j g; obtain rfl : j = k := (by omega); exact hg25)⟩
    have hp26 := trivial
    refine wp_cond_true rfl ?_
    refine wp_seq ?_
    refine wp_region_lit ?_
    refine st_mv (.bool false) ?_
    simp only [nf0, nf1, nf2, nf3, nf4]
    refine wpList_nil ?_
    show Code.wp _ _ _ _ _
    refine wp_ret ?_
    first | show bodyPost _ _ _ _ _ _ | (simp only [Exit.then, Exit.inBlock]; show bodyPost _ _ _ _ _ _)
    have hE : isNameL l = false := by
      unfold isNameL
      exact decide_eq_false (fun h => by have h_ := h.2.2.2.1 k (by omega); rw [hg25] at h_; cases h_)
    exact bodyPost_ret (results_tmp rfl _ _ _) rfl ⟨by rw [hE]; rfl, bel⟩
  have hp4 := of_decide_eq_false hg3
  refine wp_cond_false rfl ?_
  refine wp_exit ?_
  show Code.wp _ _ _ _ _
  refine wp_seq ?_
  cases hg5 : decide (1 ≤ (l.length : Int))
  · have hp6 := of_decide_eq_false hg5
    refine wp_region_lit ?_
    refine st_mv (.string (str l)) ?_
    simp only [nf0, nf1, nf2, nf3, nf4]
    refine st_value (v := (.int .i64 (l.length : Int))) (by rfl) (run_len_text (.tmp 15) rfl Try.underlying9 (l := l) rfl w2) ?_
    simp only [nf0, nf1, nf2, nf3, nf4]
    refine st_value (v := (.bool false)) (by rfl) ((run_geq (.tmp 16) (.const (.int .i64 1)) rfl rfl rfl w2).trans (by rw [hg5])) ?_
    simp only [nf0, nf1, nf2, nf3, nf4]
    refine st_mv (.bool false) ?_
    simp only [nf0, nf1, nf2, nf3, nf4]
    refine st_nob (j := 3) (t := 18) (c := false) rfl rfl rfl rfl rfl ?_
    simp only [nf0, nf1, nf2, nf3, nf4]
    refine st_nob (j := 3) (t := 18) (c := false) rfl rfl rfl rfl rfl ?_
    simp only [nf0, nf1, nf2, nf3, nf4]
    refine st_nob (j := 3) (t := 18) (c := false) rfl rfl rfl rfl rfl ?_
    simp only [nf0, nf1, nf2, nf3, nf4]
    refine st_mv (.bool false) ?_
    simp only [nf0, nf1, nf2, nf3, nf4]
    refine st_mv (.bool false) ?_
    simp only [nf0, nf1, nf2, nf3, nf4]
    refine st_nob (j := 8) (t := 23) (c := false) rfl rfl rfl rfl rfl ?_
    simp only [nf0, nf1, nf2, nf3, nf4]
    refine st_nob (j := 8) (t := 23) (c := false) rfl rfl rfl rfl rfl ?_
    simp only [nf0, nf1, nf2, nf3, nf4]
    refine st_nob (j := 8) (t := 23) (c := false) rfl rfl rfl rfl rfl ?_
    simp only [nf0, nf1, nf2, nf3, nf4]
    refine st_mv (.bool false) ?_
    simp only [nf0, nf1, nf2, nf3, nf4]
    refine st_mv (.bool false) ?_
    simp only [nf0, nf1, nf2, nf3, nf4]
    refine st_nob (j := 13) (t := 28) (c := false) rfl rfl rfl rfl rfl ?_
    simp only [nf0, nf1, nf2, nf3, nf4]
    refine st_nob (j := 13) (t := 28) (c := false) rfl rfl rfl rfl rfl ?_
    simp only [nf0, nf1, nf2, nf3, nf4]
    refine st_nob (j := 13) (t := 28) (c := false) rfl rfl rfl rfl rfl ?_
    simp only [nf0, nf1, nf2, nf3, nf4]
    refine st_mv (.bool false) ?_
    simp only [nf0, nf1, nf2, nf3, nf4]
    refine st_mv (.bool false) ?_
    simp only [nf0, nf1, nf2, nf3, nf4]
    refine wpList_nil ?_
    show Code.wp _ _ _ _ _
    refine wp_ret ?_
    first | show bodyPost _ _ _ _ _ _ | (simp only [Exit.then, Exit.inBlock]; show bodyPost _ _ _ _ _ _)
    have hE : isNameL l = false := by
      unfold isNameL
      exact decide_eq_false (fun h => by have h1_ := h.1; have h2_ := h.2.1; omega)
    exact bodyPost_ret (results_tmp rfl _ _ _) rfl ⟨by rw [hE]; rfl, bel⟩
  have hp7 := of_decide_eq_true hg5
  cases hg8 : decide ((l.length : Int) ≤ 32)
  · have hp9 := of_decide_eq_false hg8
    refine wp_region_lit ?_
    refine st_mv (.string (str l)) ?_
    simp only [nf0, nf1, nf2, nf3, nf4]
    refine st_value (v := (.int .i64 (l.length : Int))) (by rfl) (run_len_text (.tmp 15) rfl Try.underlying9 (l := l) rfl w2) ?_
    simp only [nf0, nf1, nf2, nf3, nf4]
    refine st_value (v := (.bool true)) (by rfl) ((run_geq (.tmp 16) (.const (.int .i64 1)) rfl rfl rfl w2).trans (by rw [hg5])) ?_
    simp only [nf0, nf1, nf2, nf3, nf4]
    refine st_mv (.bool true) ?_
    simp only [nf0, nf1, nf2, nf3, nf4]
    refine st_mv (.string (str l)) ?_
    simp only [nf0, nf1, nf2, nf3, nf4]
    refine st_value (v := (.int .i64 (l.length : Int))) (by rfl) (run_len_text (.tmp 19) rfl Try.underlying9 (l := l) rfl w2) ?_
    simp only [nf0, nf1, nf2, nf3, nf4]
    refine st_value (v := (.bool false)) (by rfl) ((run_leq (.tmp 20) (.const (.int .i64 32)) rfl rfl rfl w2).trans (by rw [hg8])) ?_
    simp only [nf0, nf1, nf2, nf3, nf4]
    refine st_mv (.bool false) ?_
    simp only [nf0, nf1, nf2, nf3, nf4]
    refine st_mv (.bool false) ?_
    simp only [nf0, nf1, nf2, nf3, nf4]
    refine st_nob (j := 8) (t := 23) (c := false) rfl rfl rfl rfl rfl ?_
    simp only [nf0, nf1, nf2, nf3, nf4]
    refine st_nob (j := 8) (t := 23) (c := false) rfl rfl rfl rfl rfl ?_
    simp only [nf0, nf1, nf2, nf3, nf4]
    refine st_nob (j := 8) (t := 23) (c := false) rfl rfl rfl rfl rfl ?_
    simp only [nf0, nf1, nf2, nf3, nf4]
    refine st_mv (.bool false) ?_
    simp only [nf0, nf1, nf2, nf3, nf4]
    refine st_mv (.bool false) ?_
    simp only [nf0, nf1, nf2, nf3, nf4]
    refine st_nob (j := 13) (t := 28) (c := false) rfl rfl rfl rfl rfl ?_
    simp only [nf0, nf1, nf2, nf3, nf4]
    refine st_nob (j := 13) (t := 28) (c := false) rfl rfl rfl rfl rfl ?_
    simp only [nf0, nf1, nf2, nf3, nf4]
    refine st_nob (j := 13) (t := 28) (c := false) rfl rfl rfl rfl rfl ?_
    simp only [nf0, nf1, nf2, nf3, nf4]
    refine st_mv (.bool false) ?_
    simp only [nf0, nf1, nf2, nf3, nf4]
    refine st_mv (.bool false) ?_
    simp only [nf0, nf1, nf2, nf3, nf4]
    refine wpList_nil ?_
    show Code.wp _ _ _ _ _
    refine wp_ret ?_
    first | show bodyPost _ _ _ _ _ _ | (simp only [Exit.then, Exit.inBlock]; show bodyPost _ _ _ _ _ _)
    have hE : isNameL l = false := by
      unfold isNameL
      exact decide_eq_false (fun h => by have h1_ := h.1; have h2_ := h.2.1; omega)
    exact bodyPost_ret (results_tmp rfl _ _ _) rfl ⟨by rw [hE]; rfl, bel⟩
  have hp10 := of_decide_eq_true hg8
  cases hg13 : isS (chr l 0)
  · have hp14 := trivial
    refine wp_region_lit ?_
    refine st_mv (.string (str l)) ?_
    simp only [nf0, nf1, nf2, nf3, nf4]
    refine st_value (v := (.int .i64 (l.length : Int))) (by rfl) (run_len_text (.tmp 15) rfl Try.underlying9 (l := l) rfl w2) ?_
    simp only [nf0, nf1, nf2, nf3, nf4]
    refine st_value (v := (.bool true)) (by rfl) ((run_geq (.tmp 16) (.const (.int .i64 1)) rfl rfl rfl w2).trans (by rw [hg5])) ?_
    simp only [nf0, nf1, nf2, nf3, nf4]
    refine st_mv (.bool true) ?_
    simp only [nf0, nf1, nf2, nf3, nf4]
    refine st_mv (.string (str l)) ?_
    simp only [nf0, nf1, nf2, nf3, nf4]
    refine st_value (v := (.int .i64 (l.length : Int))) (by rfl) (run_len_text (.tmp 19) rfl Try.underlying9 (l := l) rfl w2) ?_
    simp only [nf0, nf1, nf2, nf3, nf4]
    refine st_value (v := (.bool true)) (by rfl) ((run_leq (.tmp 20) (.const (.int .i64 32)) rfl rfl rfl w2).trans (by rw [hg8])) ?_
    simp only [nf0, nf1, nf2, nf3, nf4]
    refine st_mv (.bool true) ?_
    simp only [nf0, nf1, nf2, nf3, nf4]
    refine st_mv (.bool true) ?_
    simp only [nf0, nf1, nf2, nf3, nf4]
    refine st_mv (.string (str l)) ?_
    simp only [nf0, nf1, nf2, nf3, nf4]
    refine st_value (v := (.int .u8 (chr l 0))) (by rfl) (run_index_text (.tmp 24) (.const (.int .i64 0)) rfl Try.underlying9 (l := l) rfl rfl 0 (by omega) (by omega) w2) ?_
    simp only [nf0, nf1, nf2, nf3, nf4]
    refine st_call1 (v := (.bool false)) (by rfl) (j_run_call_24_1 (.tmp 25) rfl rfl _) (by have h_ := isSmall_calls (chr l 0) w2; rw [hg13] at h_; exact h_) ?_
    intro w15 hb16
    simp only [nf0, nf1, nf2, nf3, nf4]
    replace bel := bl_step bel hb16
    clear hb16
    refine st_mv (.bool false) ?_
    simp only [nf0, nf1, nf2, nf3, nf4]
    refine st_mv (.bool false) ?_
    simp only [nf0, nf1, nf2, nf3, nf4]
    refine st_nob (j := 13) (t := 28) (c := false) rfl rfl rfl rfl rfl ?_
    simp only [nf0, nf1, nf2, nf3, nf4]
    refine st_nob (j := 13) (t := 28) (c := false) rfl rfl rfl rfl rfl ?_
    simp only [nf0, nf1, nf2, nf3, nf4]
    refine st_nob (j := 13) (t := 28) (c := false) rfl rfl rfl rfl rfl ?_
    simp only [nf0, nf1, nf2, nf3, nf4]
    refine st_mv (.bool false) ?_
    simp only [nf0, nf1, nf2, nf3, nf4]
    refine st_mv (.bool false) ?_
    simp only [nf0, nf1, nf2, nf3, nf4]
    refine wpList_nil ?_
    show Code.wp _ _ _ _ _
    refine wp_ret ?_
    first | show bodyPost _ _ _ _ _ _ | (simp only [Exit.then, Exit.inBlock]; show bodyPost _ _ _ _ _ _)
    have hE : isNameL l = false := by
      unfold isNameL
      exact decide_eq_false (fun h => by have h_ := h.2.2.1; have g_ := of_decide_eq_false hg13; contradiction)
    exact bodyPost_ret (results_tmp rfl _ _ _) rfl ⟨by rw [hE]; rfl, bel⟩
  have hp17 := trivial
  refine wp_region_lit ?_
  refine st_mv (.string (str l)) ?_
  simp only [nf0, nf1, nf2, nf3, nf4]
  refine st_value (v := (.int .i64 (l.length : Int))) (by rfl) (run_len_text (.tmp 15) rfl Try.underlying9 (l := l) rfl w2) ?_
  simp only [nf0, nf1, nf2, nf3, nf4]
  refine st_value (v := (.bool true)) (by rfl) ((run_geq (.tmp 16) (.const (.int .i64 1)) rfl rfl rfl w2).trans (by rw [hg5])) ?_
  simp only [nf0, nf1, nf2, nf3, nf4]
  refine st_mv (.bool true) ?_
  simp only [nf0, nf1, nf2, nf3, nf4]
  refine st_mv (.string (str l)) ?_
  simp only [nf0, nf1, nf2, nf3, nf4]
  refine st_value (v := (.int .i64 (l.length : Int))) (by rfl) (run_len_text (.tmp 19) rfl Try.underlying9 (l := l) rfl w2) ?_
  simp only [nf0, nf1, nf2, nf3, nf4]
  refine st_value (v := (.bool true)) (by rfl) ((run_leq (.tmp 20) (.const (.int .i64 32)) rfl rfl rfl w2).trans (by rw [hg8])) ?_
  simp only [nf0, nf1, nf2, nf3, nf4]
  refine st_mv (.bool true) ?_
  simp only [nf0, nf1, nf2, nf3, nf4]
  refine st_mv (.bool true) ?_
  simp only [nf0, nf1, nf2, nf3, nf4]
  refine st_mv (.string (str l)) ?_
  simp only [nf0, nf1, nf2, nf3, nf4]
  refine st_value (v := (.int .u8 (chr l 0))) (by rfl) (run_index_text (.tmp 24) (.const (.int .i64 0)) rfl Try.underlying9 (l := l) rfl rfl 0 (by omega) (by omega) w2) ?_
  simp only [nf0, nf1, nf2, nf3, nf4]
  refine st_call1 (v := (.bool true)) (by rfl) (j_run_call_24_1 (.tmp 25) rfl rfl _) (by have h_ := isSmall_calls (chr l 0) w2; rw [hg13] at h_; exact h_) ?_
  intro w18 hb19
  simp only [nf0, nf1, nf2, nf3, nf4]
  replace bel := bl_step bel hb19
  clear hb19
  refine st_mv (.bool true) ?_
  simp only [nf0, nf1, nf2, nf3, nf4]
  refine st_mv (.bool true) ?_
  simp only [nf0, nf1, nf2, nf3, nf4]
  refine st_mv (.string (str l)) ?_
  simp only [nf0, nf1, nf2, nf3, nf4]
  refine st_call1 (v := (.bool (isWordL l))) (by rfl) (j_run_call_16_1 (.tmp 29) rfl rfl _) (isWord_calls l w18) ?_
  intro w20 hb21
  simp only [nf0, nf1, nf2, nf3, nf4]
  replace bel := bl_step bel hb21
  clear hb21
  refine st_value (v := (.bool (!(isWordL l)))) (by rfl) (run_not (.tmp 30) rfl (b := isWordL l) rfl w20) ?_
  simp only [nf0, nf1, nf2, nf3, nf4]
  refine st_mv (.bool (!(isWordL l))) ?_
  simp only [nf0, nf1, nf2, nf3, nf4]
  refine st_mv (.bool (!(isWordL l))) ?_
  simp only [nf0, nf1, nf2, nf3, nf4]
  refine wpList_nil ?_
  show Code.wp _ _ _ _ _
  refine wp_ret ?_
  first | show bodyPost _ _ _ _ _ _ | (simp only [Exit.then, Exit.inBlock]; show bodyPost _ _ _ _ _ _)
  have hE : isNameL l = !(isWordL l) := by
    unfold isNameL
    have hS' : ∀ j, j < l.length → inW (chr l j) = true := fun j hj => hS j (by omega)
    cases hW : isWordL l
    · exact decide_eq_true ⟨by omega, by omega, (of_decide_eq_true hg13), hS', rfl⟩
    · exact decide_eq_false (fun h => by have h_ := h.2.2.2.2; cases h_)
  exact bodyPost_ret (results_tmp rfl _ _ _) rfl ⟨by rw [hE]; rfl, bel⟩
set_option maxRecDepth 100000 in
set_option maxHeartbeats 4000000 in
theorem isNameR_calls (l : List UInt8) (hl : l.length ≤ 1000000) (w : World) : Calls Try.prog 15 #[.string (str l)] w fun e w' => e = .returned (.bool (isNameL l)) ∧ Below w.heap.size w w' := by
  have bel : Below w.heap.size w w := Below.refl _ _
  go_enter Try.func15, Try.ntmps15
  refine wp_seq ?_
  refine wp_region_lit ?_
  refine st_mv (.bool false) ?_
  simp only [nf0, nf1, nf2, nf3, nf4]
  refine wpList_nil ?_
  show Code.wp _ _ _ _ _
  refine wp_seq ?_
  refine wp_seq ?_
  refine wp_region_lit ?_
  refine st_mv (.int .i64 0) ?_
  simp only [nf0, nf1, nf2, nf3, nf4]
  refine wpList_nil ?_
  show Code.wp _ _ _ _ _
  refine wp_block ?_
  refine wp_loop_left (fun n_ a_ wr_ => (fun J1 => ∃ (k : Nat), n_ = l.length - k ∧ a_ = ⟨#[.string (str l), J1 1, J1 2, .int .i64 (k : Int), J1 4, J1 5, J1 6, J1 7, J1 8, J1 9, J1 10, J1 11, J1 12, J1 13, J1 14, J1 15, J1 16, J1 17, J1 18, J1 19, J1 20, J1 21, J1 22, J1 23, J1 24, J1 25, J1 26, J1 27, J1 28, J1 29, J1 30, J1 31, J1 32, J1 33, J1 34, J1 35, J1 36, J1 37, J1 38, J1 39, J1 40, J1 41], []⟩ ∧ Below w.heap.size w wr_ ∧ (k ≤ l.length) ∧ (0 < k → kd (chr l 0) = 1) ∧ (∀ j, j < k → inW (chr l j) = true)) (jk a_)) (l.length - 0) ⟨0, rfl, rfl, bel, (Nat.zero_le _), (fun h => absurd h (Nat.lt_irrefl _)), (fun j h => absurd h (Nat.not_lt_zero _))⟩ ?_
  clear bel
  intro n_ a_ w2 h_
  revert h_
  generalize jk a_ = J1
  rintro ⟨k, hms, rfl, bel, hk, h0, hS⟩
  refine wp_seq ?_
  refine wp_seq ?_
  refine wp_region_lit ?_
  refine st_mv (.int .i64 (k : Int)) ?_
  simp only [nf0, nf1, nf2, nf3, nf4]
  refine st_mv (.string (str l)) ?_
  simp only [nf0, nf1, nf2, nf3, nf4]
  refine st_value (v := (.int .i64 (l.length : Int))) (by rfl) (run_len_text (.tmp 6) rfl Try.underlying9 (l := l) rfl w2) ?_
  simp only [nf0, nf1, nf2, nf3, nf4]
  refine st_value (v := (.bool (decide ((k : Int) < (l.length : Int))))) (by rfl) (run_lss (.tmp 5) (.tmp 7) rfl rfl rfl w2) ?_
  simp only [nf0, nf1, nf2, nf3, nf4]
  refine wpList_nil ?_
  show Code.wp _ _ _ _ _
  cases hg3 : decide ((k : Int) < (l.length : Int))
  · have hp4 := of_decide_eq_false hg3
    refine wp_cond_false rfl ?_
    refine wp_exit ?_
    show Code.wp _ _ _ _ _
    refine wp_seq ?_
    cases hg5 : decide (0 < (l.length : Int))
    · have hp6 := of_decide_eq_false hg5
      refine wp_region_lit ?_
      refine st_mv (.string (str l)) ?_
      simp only [nf0, nf1, nf2, nf3, nf4]
      refine st_value (v := (.int .i64 (l.length : Int))) (by rfl) (run_len_text (.tmp 29) rfl Try.underlying9 (l := l) rfl w2) ?_
      simp only [nf0, nf1, nf2, nf3, nf4]
      refine st_value (v := (.bool false)) (by rfl) ((run_gtr (.tmp 30) (.const (.int .i64 0)) rfl rfl rfl w2).trans (by rw [hg5])) ?_
      simp only [nf0, nf1, nf2, nf3, nf4]
      refine st_mv (.bool false) ?_
      simp only [nf0, nf1, nf2, nf3, nf4]
      refine st_nob (j := 3) (t := 32) (c := false) rfl rfl rfl rfl rfl ?_
      simp only [nf0, nf1, nf2, nf3, nf4]
      refine st_nob (j := 3) (t := 32) (c := false) rfl rfl rfl rfl rfl ?_
      simp only [nf0, nf1, nf2, nf3, nf4]
      refine st_nob (j := 3) (t := 32) (c := false) rfl rfl rfl rfl rfl ?_
      simp only [nf0, nf1, nf2, nf3, nf4]
      refine st_mv (.bool false) ?_
      simp only [nf0, nf1, nf2, nf3, nf4]
      refine st_mv (.bool false) ?_
      simp only [nf0, nf1, nf2, nf3, nf4]
      refine st_nob (j := 8) (t := 37) (c := false) rfl rfl rfl rfl rfl ?_
      simp only [nf0, nf1, nf2, nf3, nf4]
      refine st_nob (j := 8) (t := 37) (c := false) rfl rfl rfl rfl rfl ?_
      simp only [nf0, nf1, nf2, nf3, nf4]
      refine st_nob (j := 8) (t := 37) (c := false) rfl rfl rfl rfl rfl ?_
      simp only [nf0, nf1, nf2, nf3, nf4]
      refine st_mv (.bool false) ?_
      simp only [nf0, nf1, nf2, nf3, nf4]
      refine st_mv (.bool false) ?_
      simp only [nf0, nf1, nf2, nf3, nf4]
      refine wpList_nil ?_
      show Code.wp _ _ _ _ _
      refine wp_ret ?_
      first | show bodyPost _ _ _ _ _ _ | (simp only [Exit.then, Exit.inBlock]; show bodyPost _ _ _ _ _ _)
      have hE : isNameL l = false := by
        unfold isNameL
        exact decide_eq_false (fun h => by have h1_ := h.1; have h2_ := h.2.1; omega)
      exact bodyPost_ret (results_tmp rfl _ _ _) rfl ⟨by rw [hE]; rfl, bel⟩
    have hp7 := of_decide_eq_true hg5
    cases hg8 : decide ((l.length : Int) < 33)
    · have hp9 := of_decide_eq_false hg8
      refine wp_region_lit ?_
      refine st_mv (.string (str l)) ?_
      simp only [nf0, nf1, nf2, nf3, nf4]
      refine st_value (v := (.int .i64 (l.length : Int))) (by rfl) (run_len_text (.tmp 29) rfl Try.underlying9 (l := l) rfl w2) ?_
      simp only [nf0, nf1, nf2, nf3, nf4]
      refine st_value (v := (.bool true)) (by rfl) ((run_gtr (.tmp 30) (.const (.int .i64 0)) rfl rfl rfl w2).trans (by rw [hg5])) ?_
      simp only [nf0, nf1, nf2, nf3, nf4]
      refine st_mv (.bool true) ?_
      simp only [nf0, nf1, nf2, nf3, nf4]
      refine st_mv (.string (str l)) ?_
      simp only [nf0, nf1, nf2, nf3, nf4]
      refine st_value (v := (.int .i64 (l.length : Int))) (by rfl) (run_len_text (.tmp 33) rfl Try.underlying9 (l := l) rfl w2) ?_
      simp only [nf0, nf1, nf2, nf3, nf4]
      refine st_value (v := (.bool false)) (by rfl) ((run_lss (.tmp 34) (.const (.int .i64 33)) rfl rfl rfl w2).trans (by rw [hg8])) ?_
      simp only [nf0, nf1, nf2, nf3, nf4]
      refine st_mv (.bool false) ?_
      simp only [nf0, nf1, nf2, nf3, nf4]
      refine st_mv (.bool false) ?_
      simp only [nf0, nf1, nf2, nf3, nf4]
      refine st_nob (j := 8) (t := 37) (c := false) rfl rfl rfl rfl rfl ?_
      simp only [nf0, nf1, nf2, nf3, nf4]
      refine st_nob (j := 8) (t := 37) (c := false) rfl rfl rfl rfl rfl ?_
      simp only [nf0, nf1, nf2, nf3, nf4]
      refine st_nob (j := 8) (t := 37) (c := false) rfl rfl rfl rfl rfl ?_
      simp only [nf0, nf1, nf2, nf3, nf4]
      refine st_mv (.bool false) ?_
      simp only [nf0, nf1, nf2, nf3, nf4]
      refine st_mv (.bool false) ?_
      simp only [nf0, nf1, nf2, nf3, nf4]
      refine wpList_nil ?_
      show Code.wp _ _ _ _ _
      refine wp_ret ?_
      first | show bodyPost _ _ _ _ _ _ | (simp only [Exit.then, Exit.inBlock]; show bodyPost _ _ _ _ _ _)
      have hE : isNameL l = false := by
        unfold isNameL
        exact decide_eq_false (fun h => by have h1_ := h.1; have h2_ := h.2.1; omega)
      exact bodyPost_ret (results_tmp rfl _ _ _) rfl ⟨by rw [hE]; rfl, bel⟩
    have hp10 := of_decide_eq_true hg8
    refine wp_region_lit ?_
    refine st_mv (.string (str l)) ?_
    simp only [nf0, nf1, nf2, nf3, nf4]
    refine st_value (v := (.int .i64 (l.length : Int))) (by rfl) (run_len_text (.tmp 29) rfl Try.underlying9 (l := l) rfl w2) ?_
    simp only [nf0, nf1, nf2, nf3, nf4]
    refine st_value (v := (.bool true)) (by rfl) ((run_gtr (.tmp 30) (.const (.int .i64 0)) rfl rfl rfl w2).trans (by rw [hg5])) ?_
    simp only [nf0, nf1, nf2, nf3, nf4]
    refine st_mv (.bool true) ?_
    simp only [nf0, nf1, nf2, nf3, nf4]
    refine st_mv (.string (str l)) ?_
    simp only [nf0, nf1, nf2, nf3, nf4]
    refine st_value (v := (.int .i64 (l.length : Int))) (by rfl) (run_len_text (.tmp 33) rfl Try.underlying9 (l := l) rfl w2) ?_
    simp only [nf0, nf1, nf2, nf3, nf4]
    refine st_value (v := (.bool true)) (by rfl) ((run_lss (.tmp 34) (.const (.int .i64 33)) rfl rfl rfl w2).trans (by rw [hg8])) ?_
    simp only [nf0, nf1, nf2, nf3, nf4]
    refine st_mv (.bool true) ?_
    simp only [nf0, nf1, nf2, nf3, nf4]
    refine st_mv (.bool true) ?_
    simp only [nf0, nf1, nf2, nf3, nf4]
    refine st_mv (.string (str l)) ?_
    simp only [nf0, nf1, nf2, nf3, nf4]
    refine st_call1 (v := (.bool (isWordL l))) (by rfl) (j_run_call_17_1 (.tmp 38) rfl rfl _) (isWordR_calls l w2) ?_
    intro w11 hb12
    simp only [nf0, nf1, nf2, nf3, nf4]
    replace bel := bl_step bel hb12
    clear hb12
    refine st_value (v := (.bool (!(isWordL l)))) (by rfl) (run_not (.tmp 39) rfl (b := isWordL l) rfl w11) ?_
    simp only [nf0, nf1, nf2, nf3, nf4]
    refine st_mv (.bool (!(isWordL l))) ?_
    simp only [nf0, nf1, nf2, nf3, nf4]
    refine st_mv (.bool (!(isWordL l))) ?_
    simp only [nf0, nf1, nf2, nf3, nf4]
    refine wpList_nil ?_
    show Code.wp _ _ _ _ _
    refine wp_ret ?_
    first | show bodyPost _ _ _ _ _ _ | (simp only [Exit.then, Exit.inBlock]; show bodyPost _ _ _ _ _ _)
    have hE : isNameL l = !(isWordL l) := by
      unfold isNameL
      have hS' : ∀ j, j < l.length → inW (chr l j) = true := fun j hj => hS j (by omega)
      cases hW : isWordL l
      · exact decide_eq_true ⟨by omega, by omega, (h0 (by omega)), hS', rfl⟩
      · exact decide_eq_false (fun h => by have h_ := h.2.2.2.2; cases h_)
    exact bodyPost_ret (results_tmp rfl _ _ _) rfl ⟨by rw [hE]; rfl, bel⟩
  have hp13 := of_decide_eq_true hg3
  refine wp_cond_true rfl ?_
  refine wp_skip ?_
  show Code.wp _ _ _ _ _
  refine wp_seq ?_
  refine wp_block ?_
  refine wp_seq ?_
  refine wp_region_lit ?_
  refine st_mv (.string (str l)) ?_
  simp only [nf0, nf1, nf2, nf3, nf4]
  refine st_mv (.int .i64 (k : Int)) ?_
  simp only [nf0, nf1, nf2, nf3, nf4]
  refine st_value (v := (.int .u8 (chr l k))) (by rfl) (run_index_text (.tmp 11) (.tmp 12) rfl Try.underlying9 (l := l) rfl rfl k (by omega) (by omega) w2) ?_
  simp only [nf0, nf1, nf2, nf3, nf4]
  refine st_call1 (v := (.int .i64 ((kd (chr l k) : Nat) : Int))) (by rfl) (j_run_call_22_1 (.tmp 13) rfl rfl _) (kind_calls (chr l k) w2) ?_
  intro w14 hb15
  simp only [nf0, nf1, nf2, nf3, nf4]
  replace bel := bl_step bel hb15
  clear hb15
  refine st_mv (.int .i64 ((kd (chr l k) : Nat) : Int)) ?_
  simp only [nf0, nf1, nf2, nf3, nf4]
  refine wpList_nil ?_
  show Code.wp _ _ _ _ _
  refine wp_seq ?_
  cases hg16 : decide (((kd (chr l k) : Nat) : Int) = 1)
  rotate_left
  · have hp27 := of_decide_eq_true hg16
    refine wp_region_lit ?_
    refine st_mv (.int .i64 ((kd (chr l k) : Nat) : Int)) ?_
    simp only [nf0, nf1, nf2, nf3, nf4]
    refine st_value (v := (.bool false)) (by rfl) ((run_neq_int (.tmp 15) (.const (.int .i64 1)) rfl rfl rfl w14).trans (by rw [hg16]; rfl)) ?_
    simp only [nf0, nf1, nf2, nf3, nf4]
    refine st_mv (.bool false) ?_
    simp only [nf0, nf1, nf2, nf3, nf4]
    refine st_nob (j := 2) (t := 17) (c := false) rfl rfl rfl rfl rfl ?_
    simp only [nf0, nf1, nf2, nf3, nf4]
    refine st_nob (j := 2) (t := 17) (c := false) rfl rfl rfl rfl rfl ?_
    simp only [nf0, nf1, nf2, nf3, nf4]
    refine st_nob (j := 2) (t := 17) (c := false) rfl rfl rfl rfl rfl ?_
    simp only [nf0, nf1, nf2, nf3, nf4]
    refine st_nou (j := 5) (t := 20) rfl rfl rfl rfl ?_
    simp only [nf0, nf1, nf2, nf3, nf4]
    refine st_nou (j := 5) (t := 20) rfl rfl rfl rfl ?_
    simp only [nf0, nf1, nf2, nf3, nf4]
    refine st_nou (j := 5) (t := 20) rfl rfl rfl rfl ?_
    simp only [nf0, nf1, nf2, nf3, nf4]
    refine st_nou (j := 8) (t := 23) rfl rfl rfl rfl ?_
    simp only [nf0, nf1, nf2, nf3, nf4]
    refine st_nou (j := 8) (t := 23) rfl rfl rfl rfl ?_
    simp only [nf0, nf1, nf2, nf3, nf4]
    refine st_nou (j := 5) (t := 20) rfl rfl rfl rfl ?_
    simp only [nf0, nf1, nf2, nf3, nf4]
    refine st_nob (j := 2) (t := 17) (c := false) rfl rfl rfl rfl rfl ?_
    simp only [nf0, nf1, nf2, nf3, nf4]
    refine st_mv (.bool false) ?_
    simp only [nf0, nf1, nf2, nf3, nf4]
    refine wpList_nil ?_
    show Code.wp _ _ _ _ _
    refine wp_cond_false rfl ?_
    refine wp_skip ?_
    show Code.wp _ _ _ _ _
    refine wp_region_lit ?_
    refine st_mv (.int .i64 (k : Int)) ?_
    simp only [nf0, nf1, nf2, nf3, nf4]
    refine st_value (v := (.int .i64 ((k : Int) + 1))) (by rfl) (run_add_in (.tmp 9) (.const (.int .i64 1)) rfl rfl rfl (by omega) w14) ?_
    simp only [nf0, nf1, nf2, nf3, nf4]
    refine st_mv (.int .i64 ((k : Int) + 1)) ?_
    simp only [nf0, nf1, nf2, nf3, nf4]
    refine wpList_nil ?_
    show ∃ m, m < _ ∧ _
    exact ⟨_, (by omega), (k + 1), rfl, rfl, bel, (by omega), (fun _ => by by_cases hk0 : k = 0; (· subst hk0; omega); exact h0 (by omega)), (fun j h => by rcases Nat.lt_or_ge j k with g | g; exact hS j g; obtain rfl : j = k := (by omega); exact decide_eq_true (by omega))⟩
  have hp17 := of_decide_eq_false hg16
  cases hg18 : decide ((k : Int) = 0)
  rotate_left
  · have hp26 := of_decide_eq_true hg18
    refine wp_region_lit ?_
    refine st_mv (.int .i64 ((kd (chr l k) : Nat) : Int)) ?_
    simp only [nf0, nf1, nf2, nf3, nf4]
    refine st_value (v := (.bool true)) (by rfl) ((run_neq_int (.tmp 15) (.const (.int .i64 1)) rfl rfl rfl w14).trans (by rw [hg16]; rfl)) ?_
    simp only [nf0, nf1, nf2, nf3, nf4]
    refine st_mv (.bool true) ?_
    simp only [nf0, nf1, nf2, nf3, nf4]
    refine st_mv (.int .i64 (k : Int)) ?_
    simp only [nf0, nf1, nf2, nf3, nf4]
    refine st_value (v := (.bool true)) (by rfl) ((run_eql_int (.tmp 18) (.const (.int .i64 0)) rfl rfl rfl w14).trans (by rw [hg18])) ?_
    simp only [nf0, nf1, nf2, nf3, nf4]
    refine st_mv (.bool true) ?_
    simp only [nf0, nf1, nf2, nf3, nf4]
    refine st_nob (j := 5) (t := 20) (c := true) rfl rfl rfl rfl rfl ?_
    simp only [nf0, nf1, nf2, nf3, nf4]
    refine st_nob (j := 5) (t := 20) (c := true) rfl rfl rfl rfl rfl ?_
    simp only [nf0, nf1, nf2, nf3, nf4]
    refine st_nob (j := 5) (t := 20) (c := true) rfl rfl rfl rfl rfl ?_
    simp only [nf0, nf1, nf2, nf3, nf4]
    refine st_nou (j := 8) (t := 23) rfl rfl rfl rfl ?_
    simp only [nf0, nf1, nf2, nf3, nf4]
    refine st_nou (j := 8) (t := 23) rfl rfl rfl rfl ?_
    simp only [nf0, nf1, nf2, nf3, nf4]
    refine st_nob (j := 5) (t := 20) (c := true) rfl rfl rfl rfl rfl ?_
    simp only [nf0, nf1, nf2, nf3, nf4]
    refine st_mv (.bool true) ?_
    simp only [nf0, nf1, nf2, nf3, nf4]
    refine st_mv (.bool true) ?_
    simp only [nf0, nf1, nf2, nf3, nf4]
    refine wpList_nil ?_
    show Code.wp _ _ _ _ _
    refine wp_cond_true rfl ?_
    refine wp_seq ?_
    refine wp_region_lit ?_
    refine st_mv (.bool false) ?_
    simp only [nf0, nf1, nf2, nf3, nf4]
    refine wpList_nil ?_
    show Code.wp _ _ _ _ _
    refine wp_ret ?_
    first | show bodyPost _ _ _ _ _ _ | (simp only [Exit.then, Exit.inBlock]; show bodyPost _ _ _ _ _ _)
    have hE : isNameL l = false := by
      unfold isNameL
      exact decide_eq_false (fun h => by have h1_ := h.2.2.1; have h2_ := h.2.2.2.1 k (by omega); unfold inW at h2_; rw [decide_eq_true_iff] at h2_; first | omega | (obtain rfl : k = 0 := (by omega); omega))
    exact bodyPost_ret (results_tmp rfl _ _ _) rfl ⟨by rw [hE]; rfl, bel⟩
  have hp19 := of_decide_eq_false hg18
  cases hg20 : decide (((kd (chr l k) : Nat) : Int) = 2)
  rotate_left
  · have hp25 := of_decide_eq_true hg20
    refine wp_region_lit ?_
    refine st_mv (.int .i64 ((kd (chr l k) : Nat) : Int)) ?_
    simp only [nf0, nf1, nf2, nf3, nf4]
    refine st_value (v := (.bool true)) (by rfl) ((run_neq_int (.tmp 15) (.const (.int .i64 1)) rfl rfl rfl w14).trans (by rw [hg16]; rfl)) ?_
    simp only [nf0, nf1, nf2, nf3, nf4]
    refine st_mv (.bool true) ?_
    simp only [nf0, nf1, nf2, nf3, nf4]
    refine st_mv (.int .i64 (k : Int)) ?_
    simp only [nf0, nf1, nf2, nf3, nf4]
    refine st_value (v := (.bool false)) (by rfl) ((run_eql_int (.tmp 18) (.const (.int .i64 0)) rfl rfl rfl w14).trans (by rw [hg18])) ?_
    simp only [nf0, nf1, nf2, nf3, nf4]
    refine st_mv (.bool false) ?_
    simp only [nf0, nf1, nf2, nf3, nf4]
    refine st_mv (.int .i64 ((kd (chr l k) : Nat) : Int)) ?_
    simp only [nf0, nf1, nf2, nf3, nf4]
    refine st_value (v := (.bool false)) (by rfl) ((run_neq_int (.tmp 21) (.const (.int .i64 2)) rfl rfl rfl w14).trans (by rw [hg20]; rfl)) ?_
    simp only [nf0, nf1, nf2, nf3, nf4]
    refine st_mv (.bool false) ?_
    simp only [nf0, nf1, nf2, nf3, nf4]
    refine st_nob (j := 8) (t := 23) (c := false) rfl rfl rfl rfl rfl ?_
    simp only [nf0, nf1, nf2, nf3, nf4]
    refine st_nob (j := 8) (t := 23) (c := false) rfl rfl rfl rfl rfl ?_
    simp only [nf0, nf1, nf2, nf3, nf4]
    refine st_mv (.bool false) ?_
    simp only [nf0, nf1, nf2, nf3, nf4]
    refine st_mv (.bool false) ?_
    simp only [nf0, nf1, nf2, nf3, nf4]
    refine st_mv (.bool false) ?_
    simp only [nf0, nf1, nf2, nf3, nf4]
    refine wpList_nil ?_
    show Code.wp _ _ _ _ _
    refine wp_cond_false rfl ?_
    refine wp_skip ?_
    show Code.wp _ _ _ _ _
    refine wp_region_lit ?_
    refine st_mv (.int .i64 (k : Int)) ?_
    simp only [nf0, nf1, nf2, nf3, nf4]
    refine st_value (v := (.int .i64 ((k : Int) + 1))) (by rfl) (run_add_in (.tmp 9) (.const (.int .i64 1)) rfl rfl rfl (by omega) w14) ?_
    simp only [nf0, nf1, nf2, nf3, nf4]
    refine st_mv (.int .i64 ((k : Int) + 1)) ?_
    simp only [nf0, nf1, nf2, nf3, nf4]
    refine wpList_nil ?_
    show ∃ m, m < _ ∧ _
    exact ⟨_, (by omega), (k + 1), rfl, rfl, bel, (by omega), (fun _ => by by_cases hk0 : k = 0; (· subst hk0; omega); exact h0 (by omega)), (fun j h => by rcases Nat.lt_or_ge j k with g | g; exact hS j g; obtain rfl : j = k := (by omega); exact decide_eq_true (by omega))⟩
  have hp21 := of_decide_eq_false hg20
  refine wp_region_lit ?_
  refine st_mv (.int .i64 ((kd (chr l k) : Nat) : Int)) ?_
  simp only [nf0, nf1, nf2, nf3, nf4]
  refine st_value (v := (.bool true)) (by rfl) ((run_neq_int (.tmp 15) (.const (.int .i64 1)) rfl rfl rfl w14).trans (by rw [hg16]; rfl)) ?_
  simp only [nf0, nf1, nf2, nf3, nf4]
  refine st_mv (.bool true) ?_
  simp only [nf0, nf1, nf2, nf3, nf4]
  refine st_mv (.int .i64 (k : Int)) ?_
  simp only [nf0, nf1, nf2, nf3, nf4]
  refine st_value (v := (.bool false)) (by rfl) ((run_eql_int (.tmp 18) (.const (.int .i64 0)) rfl rfl rfl w14).trans (by rw [hg18])) ?_
  simp only [nf0, nf1, nf2, nf3, nf4]
  refine st_mv (.bool false) ?_
  simp only [nf0, nf1, nf2, nf3, nf4]
  refine st_mv (.int .i64 ((kd (chr l k) : Nat) : Int)) ?_
  simp only [nf0, nf1, nf2, nf3, nf4]
  refine st_value (v := (.bool true)) (by rfl) ((run_neq_int (.tmp 21) (.const (.int .i64 2)) rfl rfl rfl w14).trans (by rw [hg20]; rfl)) ?_
  simp only [nf0, nf1, nf2, nf3, nf4]
  refine st_mv (.bool true) ?_
  simp only [nf0, nf1, nf2, nf3, nf4]
  refine st_mv (.int .i64 ((kd (chr l k) : Nat) : Int)) ?_
  simp only [nf0, nf1, nf2, nf3, nf4]
  refine st_value (v := (.bool (!decide (((kd (chr l k) : Nat) : Int) = 3)))) (by rfl) (run_neq_int (.tmp 24) (.const (.int .i64 3)) rfl rfl rfl w14) ?_
  simp only [nf0, nf1, nf2, nf3, nf4]
  refine st_mv (.bool (!decide (((kd (chr l k) : Nat) : Int) = 3))) ?_
  simp only [nf0, nf1, nf2, nf3, nf4]
  refine st_mv (.bool (!decide (((kd (chr l k) : Nat) : Int) = 3))) ?_
  simp only [nf0, nf1, nf2, nf3, nf4]
  refine st_mv (.bool (!decide (((kd (chr l k) : Nat) : Int) = 3))) ?_
  simp only [nf0, nf1, nf2, nf3, nf4]
  refine wpList_nil ?_
  show Code.wp _ _ _ _ _
  cases hg22 : decide (((kd (chr l k) : Nat) : Int) = 3)
  · have hp23 := of_decide_eq_false hg22
    refine wp_cond_true rfl ?_
    refine wp_seq ?_
    refine wp_region_lit ?_
    refine st_mv (.bool false) ?_
    simp only [nf0, nf1, nf2, nf3, nf4]
    refine wpList_nil ?_
    show Code.wp _ _ _ _ _
    refine wp_ret ?_
    first | show bodyPost _ _ _ _ _ _ | (simp only [Exit.then, Exit.inBlock]; show bodyPost _ _ _ _ _ _)
    have hE : isNameL l = false := by
      unfold isNameL
      exact decide_eq_false (fun h => by have h1_ := h.2.2.1; have h2_ := h.2.2.2.1 k (by omega); unfold inW at h2_; rw [decide_eq_true_iff] at h2_; first | omega | (obtain rfl : k = 0 := (by omega); omega))
    exact bodyPost_ret (results_tmp rfl _ _ _) rfl ⟨by rw [hE]; rfl, bel⟩
  have hp24 := of_decide_eq_true hg22
  refine wp_cond_false rfl ?_
  refine wp_skip ?_
  show Code.wp _ _ _ _ _
  refine wp_region_lit ?_
  refine st_mv (.int .i64 (k : Int)) ?_
  simp only [nf0, nf1, nf2, nf3, nf4]
  refine st_value (v := (.int .i64 ((k : Int) + 1))) (by rfl) (run_add_in (.tmp 9) (.const (.int .i64 1)) rfl rfl rfl (by omega) w14) ?_
  simp only [nf0, nf1, nf2, nf3, nf4]
  refine st_mv (.int .i64 ((k : Int) + 1)) ?_
  simp only [nf0, nf1, nf2, nf3, nf4]
  refine wpList_nil ?_
  show ∃ m, m < _ ∧ _
  exact ⟨_, (by omega), (k + 1), rfl, rfl, bel, (by omega), (fun _ => by by_cases hk0 : k = 0; (· subst hk0; omega); exact h0 (by omega)), (fun j h => by rcases Nat.lt_or_ge j k with g | g; exact hS j g; obtain rfl : j = k := (by omega); exact decide_eq_true (by omega))⟩
set_option maxRecDepth 100000 in
set_option maxHeartbeats 4000000 in
theorem lastByte_calls (l : List UInt8) (c : Int) (hl : l.length ≤ 1000000) (w : World) : Calls Try.prog 40 #[.string (str l), .int .u8 c] w fun e w' => ∃ u, e = .returned u ∧ ∃ r, u = .int .i64 r ∧ LastI l c r ∧ Below w.heap.size w w' := by
  have bel : Below w.heap.size w w := Below.refl _ _
  go_enter Try.func40, Try.ntmps40
  refine wp_seq ?_
  refine wp_region_lit ?_
  refine st_mv (.int .i64 0) ?_
  simp only [nf0, nf1, nf2, nf3, nf4]
  refine wpList_nil ?_
  show Code.wp _ _ _ _ _
  refine wp_seq ?_
  refine wp_seq ?_
  refine wp_region_lit ?_
  refine st_mv (.string (str l)) ?_
  simp only [nf0, nf1, nf2, nf3, nf4]
  refine st_value (v := (.int .i64 (l.length : Int))) (by rfl) (run_len_text (.tmp 6) rfl Try.underlying9 (l := l) rfl w) ?_
  simp only [nf0, nf1, nf2, nf3, nf4]
  refine st_value (v := (.int .i64 ((l.length : Int) - 1))) (by rfl) (run_sub_in (.tmp 7) (.const (.int .i64 1)) rfl rfl rfl (by omega) w) ?_
  simp only [nf0, nf1, nf2, nf3, nf4]
  refine st_mv (.int .i64 ((l.length : Int) - 1)) ?_
  simp only [nf0, nf1, nf2, nf3, nf4]
  refine wpList_nil ?_
  show Code.wp _ _ _ _ _
  refine wp_block ?_
  refine wp_loop_left (fun n_ a_ wr_ => (fun J1 => ∃ (i : Int), n_ = (i + 1).toNat ∧ a_ = ⟨#[.string (str l), .int .u8 c, J1 2, J1 3, J1 4, .int .i64 i, J1 6, J1 7, J1 8, J1 9, J1 10, J1 11, J1 12, J1 13, J1 14, J1 15, J1 16, J1 17, J1 18], []⟩ ∧ Below w.heap.size w wr_ ∧ (-1 ≤ i ∧ i < (l.length : Int)) ∧ (∀ j : Nat, i < (j : Int) → j < l.length → chr l j ≠ c)) (jk a_)) (((l.length : Int) - 1 + 1).toNat) ⟨((l.length : Int) - 1), rfl, rfl, bel, ⟨by omega, by omega⟩, (fun j a b => by omega)⟩ ?_
  clear bel
  intro n_ a_ w2 h_
  revert h_
  generalize jk a_ = J1
  rintro ⟨i, hms, rfl, bel, hi, hn⟩
  refine wp_seq ?_
  refine wp_seq ?_
  refine wp_region_lit ?_
  refine st_mv (.int .i64 i) ?_
  simp only [nf0, nf1, nf2, nf3, nf4]
  refine st_value (v := (.bool (decide (0 ≤ i)))) (by rfl) (run_geq (.tmp 9) (.const (.int .i64 0)) rfl rfl rfl w2) ?_
  simp only [nf0, nf1, nf2, nf3, nf4]
  refine wpList_nil ?_
  show Code.wp _ _ _ _ _
  cases hg3 : decide (0 ≤ i)
  · have hp4 := of_decide_eq_false hg3
    refine wp_cond_false rfl ?_
    refine wp_exit ?_
    show Code.wp _ _ _ _ _
    refine wp_seq ?_
    refine wp_region_lit ?_
    refine st_mv (.int .i64 (-1)) ?_
    simp only [nf0, nf1, nf2, nf3, nf4]
    refine wpList_nil ?_
    show Code.wp _ _ _ _ _
    refine wp_ret ?_
    first | show bodyPost _ _ _ _ _ _ | (simp only [Exit.then, Exit.inBlock]; show bodyPost _ _ _ _ _ _)
    exact bodyPost_ret (results_tmp rfl _ _ _) rfl ⟨_, rfl, -1, rfl, .inl ⟨rfl, fun j hj => hn j (by omega) hj⟩, bel⟩
  have hp5 := of_decide_eq_true hg3
  refine wp_cond_true rfl ?_
  refine wp_skip ?_
  show Code.wp _ _ _ _ _
  refine wp_seq ?_
  refine wp_block ?_
  refine wp_seq ?_
  obtain ⟨q, rfl⟩ : ∃ q : Nat, i = q := ⟨i.toNat, by omega⟩
  refine wp_region_lit ?_
  refine st_mv (.string (str l)) ?_
  simp only [nf0, nf1, nf2, nf3, nf4]
  refine st_mv (.int .i64 (q : Int)) ?_
  simp only [nf0, nf1, nf2, nf3, nf4]
  refine st_value (v := (.int .u8 (chr l q))) (by rfl) (run_index_text (.tmp 13) (.tmp 14) rfl Try.underlying9 (l := l) rfl rfl q (by omega) (by omega) w2) ?_
  simp only [nf0, nf1, nf2, nf3, nf4]
  refine st_mv (.int .u8 c) ?_
  simp only [nf0, nf1, nf2, nf3, nf4]
  refine st_value (v := (.bool (decide ((chr l q) = c)))) (by rfl) (run_eql_int (.tmp 15) (.tmp 16) rfl rfl rfl w2) ?_
  simp only [nf0, nf1, nf2, nf3, nf4]
  refine wpList_nil ?_
  show Code.wp _ _ _ _ _
  cases hg6 : decide ((chr l q) = c)
  rotate_left
  · have hp8 := of_decide_eq_true hg6
    refine wp_cond_true rfl ?_
    refine wp_seq ?_
    refine wp_region_lit ?_
    refine st_mv (.int .i64 (q : Int)) ?_
    simp only [nf0, nf1, nf2, nf3, nf4]
    refine st_mv (.int .i64 (q : Int)) ?_
    simp only [nf0, nf1, nf2, nf3, nf4]
    refine wpList_nil ?_
    show Code.wp _ _ _ _ _
    refine wp_ret ?_
    first | show bodyPost _ _ _ _ _ _ | (simp only [Exit.then, Exit.inBlock]; show bodyPost _ _ _ _ _ _)
    exact bodyPost_ret (results_tmp rfl _ _ _) rfl ⟨_, rfl, (q : Int), rfl, .inr ⟨q, rfl, by omega, by assumption, fun j a b => hn j (by omega) b⟩, bel⟩
  have hp7 := of_decide_eq_false hg6
  refine wp_cond_false rfl ?_
  refine wp_skip ?_
  show Code.wp _ _ _ _ _
  refine wp_region_lit ?_
  refine st_mv (.int .i64 (q : Int)) ?_
  simp only [nf0, nf1, nf2, nf3, nf4]
  refine st_value (v := (.int .i64 ((q : Int) - 1))) (by rfl) (run_sub_in (.tmp 11) (.const (.int .i64 1)) rfl rfl rfl (by omega) w2) ?_
  simp only [nf0, nf1, nf2, nf3, nf4]
  refine st_mv (.int .i64 ((q : Int) - 1)) ?_
  simp only [nf0, nf1, nf2, nf3, nf4]
  refine wpList_nil ?_
  show ∃ m, m < _ ∧ _
  exact ⟨_, (by omega), ((q : Int) - 1), rfl, rfl, bel, ⟨by omega, by omega⟩, (fun j a b => by by_cases e : j = q; (· subst e; assumption); exact hn j (by omega) b)⟩
set_option maxRecDepth 100000 in
set_option maxHeartbeats 4000000 in
theorem last_calls (l : List UInt8) (hl : l.length ≤ 1000000) (w : World) : Calls Try.prog 26 #[.string (str l), .string ⟨#[10]⟩] w fun e w' => ∃ u, e = .returned u ∧ ∃ r, u = .int .i64 r ∧ LastI l 10 r ∧ Below w.heap.size w w' := by
  have bel : Below w.heap.size w w := Below.refl _ _
  go_enter Try.func26, Try.ntmps26
  refine wp_seq ?_
  refine wp_region_lit ?_
  refine st_mv (.int .i64 0) ?_
  simp only [nf0, nf1, nf2, nf3, nf4]
  refine wpList_nil ?_
  show Code.wp _ _ _ _ _
  refine wp_seq ?_
  refine wp_region_lit ?_
  refine st_mv (.string (str [10])) ?_
  simp only [nf0, nf1, nf2, nf3, nf4]
  refine st_value (v := (.int .i64 ([10].length : Int))) (by rfl) (run_len_text (.tmp 6) rfl Try.underlying9 (l := [10]) rfl w) ?_
  simp only [nf0, nf1, nf2, nf3, nf4]
  refine st_mv (.int .i64 ([10].length : Int)) ?_
  simp only [nf0, nf1, nf2, nf3, nf4]
  refine wpList_nil ?_
  show Code.wp _ _ _ _ _
  refine wp_seq ?_
  refine wp_block ?_
  refine wp_seq ?_
  refine wp_region_lit ?_
  refine st_mv (.int .i64 ([10].length : Int)) ?_
  simp only [nf0, nf1, nf2, nf3, nf4]
  refine st_value (v := (.bool false)) (by rfl) (run_eql_int_f (.tmp 9) (.const (.int .i64 0)) rfl rfl rfl (by decide) w) ?_
  simp only [nf0, nf1, nf2, nf3, nf4]
  refine st_mv (.bool false) ?_
  simp only [nf0, nf1, nf2, nf3, nf4]
  refine wpList_nil ?_
  show Code.wp _ _ _ _ _
  refine wp_cond_false rfl ?_
  refine wp_seq ?_
  refine wp_region_lit ?_
  refine st_mv (.int .i64 ([10].length : Int)) ?_
  simp only [nf0, nf1, nf2, nf3, nf4]
  refine st_value (v := (.bool true)) (by rfl) (run_eql_int_t (.tmp 14) (.const (.int .i64 1)) rfl rfl rfl rfl w) ?_
  simp only [nf0, nf1, nf2, nf3, nf4]
  refine st_mv (.bool true) ?_
  simp only [nf0, nf1, nf2, nf3, nf4]
  refine wpList_nil ?_
  show Code.wp _ _ _ _ _
  refine wp_cond_true rfl ?_
  refine wp_seq ?_
  refine wp_region_lit ?_
  refine st_mv (.string (str l)) ?_
  simp only [nf0, nf1, nf2, nf3, nf4]
  refine st_mv (.string (str [10])) ?_
  simp only [nf0, nf1, nf2, nf3, nf4]
  refine st_value (v := (.int .u8 (chr [10] 0))) (by rfl) (run_index_text (.tmp 17) (.const (.int .i64 0)) rfl Try.underlying9 (l := [10]) rfl rfl 0 (by omega) (by decide) w) ?_
  simp only [nf0, nf1, nf2, nf3, nf4]
  refine st_call (by rfl) (j_run_call_40_2 (.tmp 16) (.tmp 18) rfl rfl rfl _) (lastByte_calls l (chr [10] 0) (by omega) w) ?_
  rintro _ w3 ⟨r1, rfl, hr2, hf4⟩
  simp only [nf0, nf1, nf2, nf3, nf4]
  replace bel := bl_step bel hf4
  clear hf4
  have hr2b := lastI_rng hr2
  refine st_mv (.int .i64 r1) ?_
  simp only [nf0, nf1, nf2, nf3, nf4]
  refine wpList_nil ?_
  show Code.wp _ _ _ _ _
  refine wp_ret ?_
  first | show bodyPost _ _ _ _ _ _ | (simp only [Exit.then, Exit.inBlock]; show bodyPost _ _ _ _ _ _)
  exact bodyPost_ret (results_tmp rfl _ _ _) rfl ⟨_, rfl, _, rfl, hr2, bel⟩
set_option maxRecDepth 100000 in
set_option maxHeartbeats 4000000 in
theorem desAt_calls (l : List UInt8) (off : Int) (hl : l.length ≤ 1000000) (w : World) : Calls Try.prog 18 #[.string (str l), .int .i64 off] w fun e w' => e = .returned (.agg (ePl.enc (plc l (clampN off l.length))).toArray) ∧ Below w.heap.size w w' := by
  have bel : Below w.heap.size w w := Below.refl _ _
  obtain ⟨c, hc⟩ : ∃ c : Nat, max 0 (min off (l.length : Int)) = (c : Int) := ⟨(max 0 (min off (l.length : Int))).toNat, by omega⟩
  have hcl : c ≤ l.length := by omega
  have hcn : clampN off l.length = c := by unfold clampN; omega
  have htl : (l.take c).length = c := by rw [List.length_take]; omega
  have hct := lnS_count hcl
  have hcc := List.count_le_length (a := (10 : UInt8)) (l := l.take c)
  go_enter Try.func18, Try.ntmps18
  refine wp_seq ?_
  refine wp_region_lit ?_
  refine st_new (cs := #[.int .i64 0, .int .i64 0, .int .i64 0]) (t := 26) (by rfl) (run_allocV rfl j_zero_26 _) ?_
  intro g1 w2 B3 hb4 lo5
  simp only [nf0, nf1, nf2, nf3, nf4]
  replace lo5 := low_le bel lo5
  replace bel := bl_step bel hb4
  clear hb4
  refine wpList_nil ?_
  show Code.wp _ _ _ _ _
  refine wp_seq ?_
  refine wp_region_lit ?_
  refine st_mv (.int .i64 off) ?_
  simp only [nf0, nf1, nf2, nf3, nf4]
  refine st_mv (.string (str l)) ?_
  simp only [nf0, nf1, nf2, nf3, nf4]
  refine st_value (v := (.int .i64 (l.length : Int))) (by rfl) (run_len_text (.tmp 7) rfl Try.underlying9 (l := l) rfl w2) ?_
  simp only [nf0, nf1, nf2, nf3, nf4]
  refine st_value (v := (.int .i64 (min off (l.length : Int)))) (by rfl) (run_min2 (.tmp 6) (.tmp 8) rfl rfl rfl w2) ?_
  simp only [nf0, nf1, nf2, nf3, nf4]
  refine st_value (v := (.int .i64 (c : Int))) (by rfl) ((run_max2 (.const (.int .i64 0)) (.tmp 9) rfl rfl rfl w2).trans (by rw [hc])) ?_
  simp only [nf0, nf1, nf2, nf3, nf4]
  refine st_mv (.int .i64 (c : Int)) ?_
  simp only [nf0, nf1, nf2, nf3, nf4]
  refine wpList_nil ?_
  show Code.wp _ _ _ _ _
  refine wp_seq ?_
  refine wp_region_lit ?_
  refine st_mv (.string (str l)) ?_
  simp only [nf0, nf1, nf2, nf3, nf4]
  refine st_mv (.int .i64 (c : Int)) ?_
  simp only [nf0, nf1, nf2, nf3, nf4]
  refine st_value (v := (.string (str (l.take c)))) (by rfl) (run_to_text (.tmp 11) (.tmp 12) rfl Try.underlying9 (l := l) (q := c) rfl rfl (by omega) (by omega) w2) ?_
  simp only [nf0, nf1, nf2, nf3, nf4]
  refine st_mv (.string (str (l.take c))) ?_
  simp only [nf0, nf1, nf2, nf3, nf4]
  refine wpList_nil ?_
  show Code.wp _ _ _ _ _
  refine wp_seq ?_
  refine wp_region_lit ?_
  refine st_mv (.int .i64 (c : Int)) ?_
  simp only [nf0, nf1, nf2, nf3, nf4]
  refine st_mv (.string (str (l.take c))) ?_
  simp only [nf0, nf1, nf2, nf3, nf4]
  refine st_call1 (v := (.int .i64 (((l.take c).count 10 : Nat) : Int))) (by rfl) (j_run_call_25_2 (.tmp 15) (.const (.string ⟨#[10]⟩)) rfl rfl rfl _) (count_calls (l.take c) w2) ?_
  intro w6 hb7
  simp only [nf0, nf1, nf2, nf3, nf4]
  replace B3 := B3.below hb7
  replace bel := bl_step bel hb7
  clear hb7
  refine st_value (v := (.int .i64 (1 + (((l.take c).count 10 : Nat) : Int)))) (by rfl) (run_add_in (.const (.int .i64 1)) (.tmp 16) rfl rfl rfl (by omega) w6) ?_
  simp only [nf0, nf1, nf2, nf3, nf4]
  refine st_mv (.int .i64 (c : Int)) ?_
  simp only [nf0, nf1, nf2, nf3, nf4]
  refine st_mv (.string (str (l.take c))) ?_
  simp only [nf0, nf1, nf2, nf3, nf4]
  refine st_call (by rfl) (j_run_call_26_2 (.tmp 19) (.const (.string ⟨#[10]⟩)) rfl rfl rfl _) (last_calls (l.take c) (by omega) w6) ?_
  rintro _ w10 ⟨r8, rfl, hr9, hf11⟩
  simp only [nf0, nf1, nf2, nf3, nf4]
  replace B3 := B3.below hf11
  replace bel := bl_step bel hf11
  clear hf11
  have hr9b := lastI_rng hr9
  refine st_value (v := (.int .i64 ((c : Int) - r8))) (by rfl) (run_sub_in (.tmp 18) (.tmp 20) rfl rfl rfl (by omega) w10) ?_
  simp only [nf0, nf1, nf2, nf3, nf4]
  refine st_value (v := (.agg #[.int .i64 (c : Int), .int .i64 (1 + (((l.take c).count 10 : Nat) : Int)), .int .i64 ((c : Int) - r8)])) (by rfl) (run_buildV rfl (by kernel_rfl) w10) ?_
  simp only [nf0, nf1, nf2, nf3, nf4]
  refine st_row (by rfl) (run_storeW (.tmp 4) (.tmp 22) rfl (cs := #[.int .i64 (c : Int), .int .i64 (1 + (((l.take c).count 10 : Nat) : Int)), .int .i64 ((c : Int) - r8)]) aggPl rfl rfl B3 rfl (by simp [Value.oneCell'])) B3 ?_
  intro w12 B14 hg13
  simp only [nf0, nf1, nf2, nf3, nf4]
  replace bel := bl_kept0 bel hg13 lo5
  clear hg13
  clear B3
  refine wpList_nil ?_
  show Code.wp _ _ _ _ _
  refine wp_ret ?_
  first | show bodyPost _ _ _ _ _ _ | (simp only [Exit.then, Exit.inBlock]; show bodyPost _ _ _ _ _ _)
  have hls := lnS_last' hcl hr9
  exact bodyPost_ret (results_agg1 rfl (cs := #[.int .i64 (c : Int), .int .i64 (1 + (((l.take c).count 10 : Nat) : Int)), .int .i64 ((c : Int) - r8)]) aggPl (by rfl) B14) rfl ⟨by rw [hcn, at_eq hct hls], bel⟩
end Go.Proofs.Ytkebpmcgmmhifaa
