/- What the law CpusetParses does. -/
import Derived.Test.YthgamlklpfkkhaaDoorLives
import Derived.Test.YthgamlklpfkkhaaDoorRefParse
namespace Go.Proofs.YthgamlklpfkkhaaDoor
open Go.RowKit Go.WideShapes Go.ChangeShapes
set_option linter.unusedSimpArgs false
set_option linter.unusedVariables false

theorem run_call_10_1 {o : Oper} {a : Act} (x0 : Operand) {ts : Array TypeId} (ho : o.op = .call { callee := .value (.func 10), args := #[x0], argTypes := ts }) {v0 : Value} (h0 : a.eval x0 = v0) (W : World) : (execOp a.eval o).run Tryd.prog W = .ok (.enter 10 #[v0]) W := by
  unfold execOp
  simp only [ho]
  subst h0
  go_simp
theorem run_call_11_1 {o : Oper} {a : Act} (x0 : Operand) {ts : Array TypeId} (ho : o.op = .call { callee := .value (.func 11), args := #[x0], argTypes := ts }) {v0 : Value} (h0 : a.eval x0 = v0) (W : World) : (execOp a.eval o).run Tryd.prog W = .ok (.enter 11 #[v0]) W := by
  unfold execOp
  simp only [ho]
  subst h0
  go_simp
theorem run_call_12_0 {o : Oper} {a : Act}  {ts : Array TypeId} (ho : o.op = .call { callee := .value (.func 12), args := #[], argTypes := ts })  (W : World) : (execOp a.eval o).run Tryd.prog W = .ok (.enter 12 #[]) W := by
  unfold execOp
  simp only [ho]
  go_simp
set_option maxRecDepth 100000 in
set_option maxHeartbeats 4000000 in
theorem cpusetParses_calls (l : List UInt8) (w : World) (hB : Tab w) :
    Calls Tryd.prog 3 #[.string (str l)] w fun e w' => e = .returned (.bool true) ∧ Below w.heap.size w w' := by
  have bel : Below w.heap.size w w := Below.refl _ _
  go_enter Tryd.func3, Tryd.ntmps3
  refine wp_seq ?_
  refine wp_region_lit ?_
  refine st_value (v := (.bool false)) (by rfl) (by rfl) ?_
  simp only [Act.put, List.setIfInBounds_toArray, List.set_cons_zero, List.set_cons_succ]
  refine wpList_nil ?_
  show Code.wp _ _ _ _ _
  refine wp_seq ?_
  refine wp_region_lit ?_
  refine st_value (v := (.string (str l))) (by rfl) (by rfl) ?_
  simp only [Act.put, List.setIfInBounds_toArray, List.set_cons_zero, List.set_cons_succ]
  refine st_value (v := (.string (str l))) (by rfl) (by rfl) ?_
  simp only [Act.put, List.setIfInBounds_toArray, List.set_cons_zero, List.set_cons_succ]
  refine st_value (v := (.int .i64 (l.length : Int))) (by rfl) (run_len_text (.tmp 10) rfl Tryd.underlying9 (l := l) rfl w) ?_
  simp only [Act.put, List.setIfInBounds_toArray, List.set_cons_zero, List.set_cons_succ]
  refine st_value (v := (.int .i64 (min (l.length : Int) 1000))) (by rfl) (run_min2 (.tmp 11) (.const (.int .i64 1000)) rfl rfl rfl w) ?_
  simp only [Act.put, List.setIfInBounds_toArray, List.set_cons_zero, List.set_cons_succ]
  refine st_value (v := (.string (str (l.take 1000)))) (by rfl) (run_cut_text (.tmp 9) (.tmp 12) rfl Tryd.underlying9 (l := l) rfl 1000 rfl rfl w) ?_
  simp only [Act.put, List.setIfInBounds_toArray, List.set_cons_zero, List.set_cons_succ]
  refine st_value (v := (.string (str (l.take 1000)))) (by rfl) (by rfl) ?_
  simp only [Act.put, List.setIfInBounds_toArray, List.set_cons_zero, List.set_cons_succ]
  refine wpList_nil ?_
  show Code.wp _ _ _ _ _
  refine wp_seq ?_
  refine wp_region_lit ?_
  refine st_value (v := (.string (str (l.take 1000)))) (by rfl) (by rfl) ?_
  simp only [Act.put, List.setIfInBounds_toArray, List.set_cons_zero, List.set_cons_succ]
  refine st_call1 (v := (.tuple #[.agg (setA ((parse (l.take 1000)).1)), .int .i64 (((parse (l.take 1000)).2.1 : Nat) : Int), .int .i64 (((parse (l.take 1000)).2.2 : Nat) : Int)])) (by rfl) (run_call_10_1 (.tmp 15) rfl rfl _) (parse_at (l.take 1000) (by rw [List.length_take]; omega) w (S := (parse (l.take 1000)).1) (e := (parse (l.take 1000)).2.1) (a := (parse (l.take 1000)).2.2) rfl) ?_
  intro w1 hb2
  simp only [Act.put, List.setIfInBounds_toArray, List.set_cons_zero, List.set_cons_succ]
  replace bel := bl_step bel hb2
  clear hb2
  refine st_value (v := (.tuple #[.agg (setA ((parse (l.take 1000)).1)), .int .i64 (((parse (l.take 1000)).2.1 : Nat) : Int), .int .i64 (((parse (l.take 1000)).2.2 : Nat) : Int)])) (by rfl) (by rfl) ?_
  simp only [Act.put, List.setIfInBounds_toArray, List.set_cons_zero, List.set_cons_succ]
  refine st_value (v := (.agg (setA ((parse (l.take 1000)).1)))) (by rfl) (by rfl) ?_
  simp only [Act.put, List.setIfInBounds_toArray, List.set_cons_zero, List.set_cons_succ]
  refine st_value (v := (.int .i64 (((parse (l.take 1000)).2.1 : Nat) : Int))) (by rfl) (by rfl) ?_
  simp only [Act.put, List.setIfInBounds_toArray, List.set_cons_zero, List.set_cons_succ]
  refine st_value (v := (.int .i64 (((parse (l.take 1000)).2.2 : Nat) : Int))) (by rfl) (by rfl) ?_
  simp only [Act.put, List.setIfInBounds_toArray, List.set_cons_zero, List.set_cons_succ]
  refine st_new (by rfl) (run_alloc_set rfl _) ?_
  intro g3 w4 B5 hb6 lo7
  simp only [Act.put, List.setIfInBounds_toArray, List.set_cons_zero, List.set_cons_succ]
  replace lo7 := low_le bel lo7
  replace bel := bl_step bel hb6
  clear hb6
  refine st_row (by rfl) (run_store_set (.tmp 3) (.tmp 17) rfl rfl (S := ((parse (l.take 1000)).1)) rfl B5) B5 ?_
  intro w8 B10 hg9
  simp only [Act.put, List.setIfInBounds_toArray, List.set_cons_zero, List.set_cons_succ]
  clear B5
  replace bel := bl_kept0 bel hg9 lo7
  clear hg9
  refine st_value (v := (.int .i64 (((parse (l.take 1000)).2.1 : Nat) : Int))) (by rfl) (by rfl) ?_
  simp only [Act.put, List.setIfInBounds_toArray, List.set_cons_zero, List.set_cons_succ]
  refine st_value (v := (.int .i64 (((parse (l.take 1000)).2.2 : Nat) : Int))) (by rfl) (by rfl) ?_
  simp only [Act.put, List.setIfInBounds_toArray, List.set_cons_zero, List.set_cons_succ]
  refine wpList_nil ?_
  show Code.wp _ _ _ _ _
  refine wp_seq ?_
  refine wp_region_lit ?_
  refine st_value (v := (.string (str (l.take 1000)))) (by rfl) (by rfl) ?_
  simp only [Act.put, List.setIfInBounds_toArray, List.set_cons_zero, List.set_cons_succ]
  refine st_call1 (v := (.tuple #[.agg (setA ((parse (l.take 1000)).1)), .int .i64 (((parse (l.take 1000)).2.1 : Nat) : Int), .int .i64 (((parse (l.take 1000)).2.2 : Nat) : Int)])) (by rfl) (run_call_11_1 (.tmp 21) rfl rfl _) (refParse_calls (l.take 1000) (by rw [List.length_take]; omega) w8) ?_
  intro w11 hb12
  simp only [Act.put, List.setIfInBounds_toArray, List.set_cons_zero, List.set_cons_succ]
  replace B10 := B10.below hb12
  replace bel := bl_step bel hb12
  clear hb12
  refine st_value (v := (.tuple #[.agg (setA ((parse (l.take 1000)).1)), .int .i64 (((parse (l.take 1000)).2.1 : Nat) : Int), .int .i64 (((parse (l.take 1000)).2.2 : Nat) : Int)])) (by rfl) (by rfl) ?_
  simp only [Act.put, List.setIfInBounds_toArray, List.set_cons_zero, List.set_cons_succ]
  refine st_value (v := (.agg (setA ((parse (l.take 1000)).1)))) (by rfl) (by rfl) ?_
  simp only [Act.put, List.setIfInBounds_toArray, List.set_cons_zero, List.set_cons_succ]
  refine st_value (v := (.int .i64 (((parse (l.take 1000)).2.1 : Nat) : Int))) (by rfl) (by rfl) ?_
  simp only [Act.put, List.setIfInBounds_toArray, List.set_cons_zero, List.set_cons_succ]
  refine st_value (v := (.int .i64 (((parse (l.take 1000)).2.2 : Nat) : Int))) (by rfl) (by rfl) ?_
  simp only [Act.put, List.setIfInBounds_toArray, List.set_cons_zero, List.set_cons_succ]
  refine st_new (by rfl) (run_alloc_set rfl _) ?_
  intro g13 w14 B15 hb16 lo17
  simp only [Act.put, List.setIfInBounds_toArray, List.set_cons_zero, List.set_cons_succ]
  have n18 := B10.ne lo17
  replace lo17 := low_le bel lo17
  replace B10 := B10.below hb16
  replace bel := bl_step bel hb16
  clear hb16
  refine st_row (by rfl) (run_store_set (.tmp 6) (.tmp 23) rfl rfl (S := ((parse (l.take 1000)).1)) rfl B15) B15 ?_
  intro w19 B21 hg20
  simp only [Act.put, List.setIfInBounds_toArray, List.set_cons_zero, List.set_cons_succ]
  replace B10 := B10.kept hg20 n18
  clear B15
  replace bel := bl_kept0 bel hg20 lo17
  clear hg20
  refine st_value (v := (.int .i64 (((parse (l.take 1000)).2.1 : Nat) : Int))) (by rfl) (by rfl) ?_
  simp only [Act.put, List.setIfInBounds_toArray, List.set_cons_zero, List.set_cons_succ]
  refine st_value (v := (.int .i64 (((parse (l.take 1000)).2.2 : Nat) : Int))) (by rfl) (by rfl) ?_
  simp only [Act.put, List.setIfInBounds_toArray, List.set_cons_zero, List.set_cons_succ]
  refine wpList_nil ?_
  show Code.wp _ _ _ _ _
  refine wp_seq ?_
  refine wp_region_lit ?_
  refine st_value (v := (.agg (setA ((parse (l.take 1000)).1)))) (by rfl) (run_load_set (.tmp 3) rfl _ rfl ((parse (l.take 1000)).1) B10) ?_
  simp only [Act.put, List.setIfInBounds_toArray, List.set_cons_zero, List.set_cons_succ]
  refine st_value (v := (.agg (setA ((parse (l.take 1000)).1)))) (by rfl) (run_load_set (.tmp 6) rfl _ rfl ((parse (l.take 1000)).1) B21) ?_
  simp only [Act.put, List.setIfInBounds_toArray, List.set_cons_zero, List.set_cons_succ]
  refine st_value (v := (.bool true)) (by rfl) (run_eql_set_t (.tmp 26) (.tmp 27) rfl rfl rfl (parse_sm _) (parse_sm _) rfl w19) ?_
  simp only [Act.put, List.setIfInBounds_toArray, List.set_cons_zero, List.set_cons_succ]
  refine st_value (v := (.bool true)) (by rfl) (by rfl) ?_
  simp only [Act.put, List.setIfInBounds_toArray, List.set_cons_zero, List.set_cons_succ]
  refine st_value (v := (.int .i64 (((parse (l.take 1000)).2.1 : Nat) : Int))) (by rfl) (by rfl) ?_
  simp only [Act.put, List.setIfInBounds_toArray, List.set_cons_zero, List.set_cons_succ]
  refine st_value (v := (.int .i64 (((parse (l.take 1000)).2.1 : Nat) : Int))) (by rfl) (by rfl) ?_
  simp only [Act.put, List.setIfInBounds_toArray, List.set_cons_zero, List.set_cons_succ]
  refine st_value (v := (.bool true)) (by rfl) (run_eql_int_t (.tmp 30) (.tmp 31) rfl rfl rfl rfl w19) ?_
  simp only [Act.put, List.setIfInBounds_toArray, List.set_cons_zero, List.set_cons_succ]
  refine st_value (v := (.bool true)) (by rfl) (by rfl) ?_
  simp only [Act.put, List.setIfInBounds_toArray, List.set_cons_zero, List.set_cons_succ]
  refine st_value (v := (.bool true)) (by rfl) (by rfl) ?_
  simp only [Act.put, List.setIfInBounds_toArray, List.set_cons_zero, List.set_cons_succ]
  refine st_value (v := (.int .i64 (((parse (l.take 1000)).2.2 : Nat) : Int))) (by rfl) (by rfl) ?_
  simp only [Act.put, List.setIfInBounds_toArray, List.set_cons_zero, List.set_cons_succ]
  refine st_value (v := (.int .i64 (((parse (l.take 1000)).2.2 : Nat) : Int))) (by rfl) (by rfl) ?_
  simp only [Act.put, List.setIfInBounds_toArray, List.set_cons_zero, List.set_cons_succ]
  refine st_value (v := (.bool true)) (by rfl) (run_eql_int_t (.tmp 35) (.tmp 36) rfl rfl rfl rfl w19) ?_
  simp only [Act.put, List.setIfInBounds_toArray, List.set_cons_zero, List.set_cons_succ]
  refine st_value (v := (.bool true)) (by rfl) (by rfl) ?_
  simp only [Act.put, List.setIfInBounds_toArray, List.set_cons_zero, List.set_cons_succ]
  refine st_value (v := (.bool true)) (by rfl) (by rfl) ?_
  simp only [Act.put, List.setIfInBounds_toArray, List.set_cons_zero, List.set_cons_succ]
  refine st_call1 (v := (.bool true)) (by rfl) (run_call_12_0  rfl  _) (lives_calls w19 (hB.same bel)) ?_
  intro w22 hb23
  simp only [Act.put, List.setIfInBounds_toArray, List.set_cons_zero, List.set_cons_succ]
  replace B10 := B10.below hb23
  replace B21 := B21.below hb23
  replace bel := bl_step bel hb23
  clear hb23
  refine st_value (v := (.bool true)) (by rfl) (by rfl) ?_
  simp only [Act.put, List.setIfInBounds_toArray, List.set_cons_zero, List.set_cons_succ]
  refine st_value (v := (.bool true)) (by rfl) (by rfl) ?_
  simp only [Act.put, List.setIfInBounds_toArray, List.set_cons_zero, List.set_cons_succ]
  refine wpList_nil ?_
  show Code.wp _ _ _ _ _
  refine wp_ret ?_
  first | show bodyPost _ _ _ _ _ _ | (simp only [Exit.then, Exit.inBlock]; show bodyPost _ _ _ _ _ _)
  exact bodyPost_ret (results_tmp rfl _ _ _) rfl ⟨rfl, bel⟩
end Go.Proofs.YthgamlklpfkkhaaDoor
