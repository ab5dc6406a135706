/- What the law CpusetNext does. -/
import Derived.Test.YthgamlklpfkkhaaDoorLives
import Derived.Test.YthgamlklpfkkhaaDoorMore
import Derived.Test.YthgamlklpfkkhaaDoorFge
namespace Go.Proofs.YthgamlklpfkkhaaDoor
open Go.RowKit Go.WideShapes Go.ChangeShapes
set_option linter.unusedSimpArgs false
set_option linter.unusedVariables false

theorem run_call_12_0 {o : Oper} {a : Act}  {ts : Array TypeId} (ho : o.op = .call { callee := .value (.func 12), args := #[], argTypes := ts })  (W : World) : (execOp a.eval o).run Tryd.prog W = .ok (.enter 12 #[]) W := by
  unfold execOp
  simp only [ho]
  go_simp
theorem run_call_28_1 {o : Oper} {a : Act} (x0 : Operand) {ts : Array TypeId} (ho : o.op = .call { callee := .value (.func 28), args := #[x0], argTypes := ts }) {v0 : Value} (h0 : a.eval x0 = v0) (W : World) : (execOp a.eval o).run Tryd.prog W = .ok (.enter 28 #[v0]) W := by
  unfold execOp
  simp only [ho]
  subst h0
  go_simp
theorem run_call_29_1 {o : Oper} {a : Act} (x0 : Operand) {ts : Array TypeId} (ho : o.op = .call { callee := .value (.func 29), args := #[x0], argTypes := ts }) {v0 : Value} (h0 : a.eval x0 = v0) (W : World) : (execOp a.eval o).run Tryd.prog W = .ok (.enter 29 #[v0]) W := by
  unfold execOp
  simp only [ho]
  subst h0
  go_simp
theorem run_call_30_2 {o : Oper} {a : Act} (x0 : Operand) (x1 : Operand) {ts : Array TypeId} (ho : o.op = .call { callee := .value (.func 30), args := #[x0, x1], argTypes := ts }) {v0 : Value} (h0 : a.eval x0 = v0) {v1 : Value} (h1 : a.eval x1 = v1) (W : World) : (execOp a.eval o).run Tryd.prog W = .ok (.enter 30 #[v0, v1]) W := by
  unfold execOp
  simp only [ho]
  subst h0 h1
  go_simp
theorem run_call_31_1 {o : Oper} {a : Act} (x0 : Operand) {ts : Array TypeId} (ho : o.op = .call { callee := .value (.func 31), args := #[x0], argTypes := ts }) {v0 : Value} (h0 : a.eval x0 = v0) (W : World) : (execOp a.eval o).run Tryd.prog W = .ok (.enter 31 #[v0]) W := by
  unfold execOp
  simp only [ho]
  subst h0
  go_simp
theorem run_call_32_1 {o : Oper} {a : Act} (x0 : Operand) {ts : Array TypeId} (ho : o.op = .call { callee := .value (.func 32), args := #[x0], argTypes := ts }) {v0 : Value} (h0 : a.eval x0 = v0) (W : World) : (execOp a.eval o).run Tryd.prog W = .ok (.enter 32 #[v0]) W := by
  unfold execOp
  simp only [ho]
  subst h0
  go_simp
set_option maxRecDepth 100000 in
set_option maxHeartbeats 4000000 in
theorem cpusetNext_calls (S : Nat) (hS : Sm S) (f : Int) (w : World) (hB : Tab w) : Calls Tryd.prog 8 #[.agg (setA S), .int .i64 f] w fun e w' => e = .returned (.bool true) ∧ Below w.heap.size w w' := by
  have bel : Below w.heap.size w w := Below.refl _ _
  have hL := ints_mem_len S
  go_enter Tryd.func8, Tryd.ntmps8
  refine wp_seq ?_
  refine wp_region_lit ?_
  refine st_new (by rfl) (run_box_set (.tmp 0) rfl (S := S) rfl _) ?_
  intro g1 w2 B3 hb4 lo5
  simp only [Act.put, List.setIfInBounds_toArray, List.set_cons_zero, List.set_cons_succ]
  replace lo5 := low_le bel lo5
  replace bel := bl_step bel hb4
  clear hb4
  refine st_value (v := (.bool false)) (by rfl) (by rfl) ?_
  simp only [Act.put, List.setIfInBounds_toArray, List.set_cons_zero, List.set_cons_succ]
  refine wpList_nil ?_
  show Code.wp _ _ _ _ _
  refine wp_seq ?_
  refine wp_region_lit ?_
  refine st_value (v := (.int .i64 0)) (by rfl) (by rfl) ?_
  simp only [Act.put, List.setIfInBounds_toArray, List.set_cons_zero, List.set_cons_succ]
  refine st_value (v := (.bool false)) (by rfl) (by rfl) ?_
  simp only [Act.put, List.setIfInBounds_toArray, List.set_cons_zero, List.set_cons_succ]
  refine wpList_nil ?_
  show Code.wp _ _ _ _ _
  refine wp_seq ?_
  refine wp_region_lit ?_
  refine st_value (v := (.agg (setA S))) (by rfl) (run_load_set (.tmp 2) rfl _ rfl S B3) ?_
  simp only [Act.put, List.setIfInBounds_toArray, List.set_cons_zero, List.set_cons_succ]
  refine st_call (by rfl) (run_call_29_1 (.tmp 16) rfl rfl _) (refList_calls S hS w2) ?_
  rintro v8 w6 ⟨O9, hb7⟩
  simp only [Act.put, List.setIfInBounds_toArray, List.set_cons_zero, List.set_cons_succ]
  have n10 := O9.offLow B3
  replace O9 := O9.lower bel.size
  replace B3 := B3.below hb7
  replace bel := bl_step bel hb7
  clear hb7
  refine st_value (v := v8) (by rfl) (by rfl) ?_
  simp only [Act.put, List.setIfInBounds_toArray, List.set_cons_zero, List.set_cons_succ]
  refine wpList_nil ?_
  show Code.wp _ _ _ _ _
  refine wp_seq ?_
  refine wp_seq ?_
  obtain ⟨A11, c12, hv13, h14, h15, h16, R17⟩ := O9.reads
  subst hv13
  rw [eInt_all] at R17
  clear O9
  refine wp_region_lit ?_
  refine st_value (v := (.slice A11 (ints (mem S 1024)).length c12)) (by rfl) (by rfl) ?_
  simp only [Act.put, List.setIfInBounds_toArray, List.set_cons_zero, List.set_cons_succ]
  refine st_value (v := (.int .i64 ((ints (mem S 1024)).length : Int))) (by rfl) (run_len (.tmp 18) rfl ⟨_, Tryd.underlying36⟩ rfl w6) ?_
  simp only [Act.put, List.setIfInBounds_toArray, List.set_cons_zero, List.set_cons_succ]
  refine st_value (v := (.int .i64 0)) (by rfl) (by rfl) ?_
  simp only [Act.put, List.setIfInBounds_toArray, List.set_cons_zero, List.set_cons_succ]
  refine wpList_nil ?_
  show Code.wp _ _ _ _ _
  refine wp_block ?_
  refine wp_loop_left (fun n_ a_ wr_ => ∃ (k : Nat) (j9 : Value) (j21 : Value) (j22 : Value) (j23 : Value) (j24 : Value) (j25 : Value) (j26 : Value) (j27 : Value) (j28 : Value) (j29 : Value) (j30 : Value) (j31 : Value) (j32 : Value), n_ = (ints (mem S 1024)).length - k ∧ a_ = ⟨#[.agg (setA S), .int .i64 f, .pointer (some ⟨g1, 0, none⟩), undef, .bool false, .int .i64 ((fge f ((ints (mem S 1024)).take k)).1), .bool ((fge f ((ints (mem S 1024)).take k)).2), .slice A11 (ints (mem S 1024)).length c12, undef, j9, undef, undef, undef, undef, undef, undef, .agg (setA S), .slice A11 (ints (mem S 1024)).length c12, .slice A11 (ints (mem S 1024)).length c12, .int .i64 ((ints (mem S 1024)).length : Int), .int .i64 (k : Int), j21, j22, j23, j24, j25, j26, j27, j28, j29, j30, j31, j32, undef, undef, undef, undef, undef, undef, undef, undef, undef, undef, undef, undef, undef, undef, undef, undef, undef, undef, undef, undef, undef, undef, undef, undef, undef, undef, undef, undef, undef, undef, undef, undef, undef, undef, undef, undef, undef, undef, undef, undef, undef, undef, undef, undef, undef, undef, undef, undef, undef, undef, undef, undef, undef, undef, undef, undef, undef, undef, undef, undef, undef, undef, undef, undef, undef, undef, undef, undef, undef, undef, undef, undef, undef, undef], []⟩ ∧ Blk wr_ g1 (setA S) 24 ∧ Reads wr_ A11 ((ints (mem S 1024)).map (Value.int .i64)) ∧ Below w.heap.size w wr_ ∧ k ≤ (ints (mem S 1024)).length) ((ints (mem S 1024)).length - 0) ⟨0, undef, undef, undef, undef, undef, undef, undef, undef, undef, undef, undef, undef, undef, rfl, rfl, B3, R17, bel, Nat.zero_le _⟩ ?_
  clear B3
  clear R17
  clear bel
  rintro n_ a_ w18 ⟨k, j9, j21, j22, j23, j24, j25, j26, j27, j28, j29, j30, j31, j32, hn, rfl, B3, R17, bel, hk⟩
  refine wp_seq ?_
  refine wp_region_lit ?_
  refine st_value (v := (.bool (decide ((k : Int) < ((ints (mem S 1024)).length : Int))))) (by rfl) (run_lss (.tmp 20) (.tmp 19) rfl rfl rfl w18) ?_
  simp only [Act.put, List.setIfInBounds_toArray, List.set_cons_zero, List.set_cons_succ]
  refine wpList_nil ?_
  show Code.wp _ _ _ _ _
  refine wp_seq ?_
  cases hg19 : decide ((k : Int) < ((ints (mem S 1024)).length : Int))
  · have hp20 := of_decide_eq_false hg19
    refine wp_cond_false rfl ?_
    refine wp_exit ?_
    show Code.wp _ _ _ _ _
    refine wp_seq ?_
    obtain rfl : k = (ints (mem S 1024)).length := by omega
    rw [List.take_length]
    refine wp_region_lit ?_
    refine st_value (v := (.agg (setA S))) (by rfl) (run_load_set (.tmp 2) rfl _ rfl S B3) ?_
    simp only [Act.put, List.setIfInBounds_toArray, List.set_cons_zero, List.set_cons_succ]
    refine st_value (v := (.int .i64 f)) (by rfl) (by rfl) ?_
    simp only [Act.put, List.setIfInBounds_toArray, List.set_cons_zero, List.set_cons_succ]
    refine st_call1 (v := (.tuple #[.int .i64 ((fge f (ints (mem S 1024))).1), .bool ((fge f (ints (mem S 1024))).2)])) (by rfl) (run_call_30_2 (.tmp 34) (.tmp 35) rfl rfl rfl _) (next_fge S hS f w18 (hB.same bel)) ?_
    intro w21 hb22
    simp only [Act.put, List.setIfInBounds_toArray, List.set_cons_zero, List.set_cons_succ]
    replace B3 := B3.below hb22
    replace R17 := R17.same hb22
    replace bel := bl_step bel hb22
    clear hb22
    refine st_value (v := (.tuple #[.int .i64 ((fge f (ints (mem S 1024))).1), .bool ((fge f (ints (mem S 1024))).2)])) (by rfl) (by rfl) ?_
    simp only [Act.put, List.setIfInBounds_toArray, List.set_cons_zero, List.set_cons_succ]
    refine st_value (v := (.int .i64 ((fge f (ints (mem S 1024))).1))) (by rfl) (by rfl) ?_
    simp only [Act.put, List.setIfInBounds_toArray, List.set_cons_zero, List.set_cons_succ]
    refine st_value (v := (.bool ((fge f (ints (mem S 1024))).2))) (by rfl) (by rfl) ?_
    simp only [Act.put, List.setIfInBounds_toArray, List.set_cons_zero, List.set_cons_succ]
    refine st_value (v := (.int .i64 ((fge f (ints (mem S 1024))).1))) (by rfl) (by rfl) ?_
    simp only [Act.put, List.setIfInBounds_toArray, List.set_cons_zero, List.set_cons_succ]
    refine st_value (v := (.bool ((fge f (ints (mem S 1024))).2))) (by rfl) (by rfl) ?_
    simp only [Act.put, List.setIfInBounds_toArray, List.set_cons_zero, List.set_cons_succ]
    refine wpList_nil ?_
    show Code.wp _ _ _ _ _
    refine wp_seq ?_
    refine wp_region_lit ?_
    refine st_value (v := (.agg (setA S))) (by rfl) (run_load_set (.tmp 2) rfl _ rfl S B3) ?_
    simp only [Act.put, List.setIfInBounds_toArray, List.set_cons_zero, List.set_cons_succ]
    refine st_call (by rfl) (run_call_31_1 (.tmp 39) rfl rfl _) (list_calls S hS w21 (hB.same bel)) ?_
    rintro v25 w23 ⟨O26, hb24⟩
    simp only [Act.put, List.setIfInBounds_toArray, List.set_cons_zero, List.set_cons_succ]
    have n27 := O26.offLow B3
    replace O26 := O26.lower bel.size
    replace B3 := B3.below hb24
    replace R17 := R17.same hb24
    replace bel := bl_step bel hb24
    clear hb24
    refine st_value (v := v25) (by rfl) (by rfl) ?_
    simp only [Act.put, List.setIfInBounds_toArray, List.set_cons_zero, List.set_cons_succ]
    refine wpList_nil ?_
    show Code.wp _ _ _ _ _
    refine wp_seq ?_
    obtain ⟨A28, c29, hv30, h31, h32, h33, R34⟩ := O26.reads
    subst hv30
    rw [eInt_all] at R34
    clear O26
    refine wp_region_lit ?_
    refine st_value (v := (.agg (setA S))) (by rfl) (run_load_set (.tmp 2) rfl _ rfl S B3) ?_
    simp only [Act.put, List.setIfInBounds_toArray, List.set_cons_zero, List.set_cons_succ]
    refine st_call1 (v := (.tuple #[.int .i64 (nth (ints (mem S 1024)) 0), .bool (decide (0 < ((ints (mem S 1024)).length : Int)))])) (by rfl) (run_call_32_1 (.tmp 42) rfl rfl _) (first_fge S hS w23 (hB.same bel)) ?_
    intro w35 hb36
    simp only [Act.put, List.setIfInBounds_toArray, List.set_cons_zero, List.set_cons_succ]
    replace B3 := B3.below hb36
    replace R17 := R17.same hb36
    replace R34 := R34.same hb36
    replace bel := bl_step bel hb36
    clear hb36
    refine st_value (v := (.tuple #[.int .i64 (nth (ints (mem S 1024)) 0), .bool (decide (0 < ((ints (mem S 1024)).length : Int)))])) (by rfl) (by rfl) ?_
    simp only [Act.put, List.setIfInBounds_toArray, List.set_cons_zero, List.set_cons_succ]
    refine st_value (v := (.int .i64 (nth (ints (mem S 1024)) 0))) (by rfl) (by rfl) ?_
    simp only [Act.put, List.setIfInBounds_toArray, List.set_cons_zero, List.set_cons_succ]
    refine st_value (v := (.bool (decide (0 < ((ints (mem S 1024)).length : Int))))) (by rfl) (by rfl) ?_
    simp only [Act.put, List.setIfInBounds_toArray, List.set_cons_zero, List.set_cons_succ]
    refine st_value (v := (.int .i64 (nth (ints (mem S 1024)) 0))) (by rfl) (by rfl) ?_
    simp only [Act.put, List.setIfInBounds_toArray, List.set_cons_zero, List.set_cons_succ]
    refine st_value (v := (.bool (decide (0 < ((ints (mem S 1024)).length : Int))))) (by rfl) (by rfl) ?_
    simp only [Act.put, List.setIfInBounds_toArray, List.set_cons_zero, List.set_cons_succ]
    refine wpList_nil ?_
    show Code.wp _ _ _ _ _
    refine wp_seq ?_
    refine wp_seq ?_
    cases hg37 : decide (0 < ((ints (mem S 1024)).length : Int))
    · have hp38 := of_decide_eq_false hg37
      refine wp_region_lit ?_
      refine st_value (v := (.bool false)) (by rfl) (by rfl) ?_
      simp only [Act.put, List.setIfInBounds_toArray, List.set_cons_zero, List.set_cons_succ]
      refine st_value (v := (.slice A11 (ints (mem S 1024)).length c12)) (by rfl) (by rfl) ?_
      simp only [Act.put, List.setIfInBounds_toArray, List.set_cons_zero, List.set_cons_succ]
      refine st_value (v := (.int .i64 ((ints (mem S 1024)).length : Int))) (by rfl) (run_len (.tmp 47) rfl ⟨_, Tryd.underlying36⟩ rfl w35) ?_
      simp only [Act.put, List.setIfInBounds_toArray, List.set_cons_zero, List.set_cons_succ]
      refine st_value (v := (.bool false)) (by rfl) ((run_gtr (.tmp 48) (.const (.int .i64 0)) rfl rfl rfl w35).trans (by rw [hg37])) ?_
      simp only [Act.put, List.setIfInBounds_toArray, List.set_cons_zero, List.set_cons_succ]
      refine st_value (v := (.bool false)) (by rfl) (run_neq_bool_t (.tmp 46) (.tmp 49) rfl rfl rfl w35) ?_
      simp only [Act.put, List.setIfInBounds_toArray, List.set_cons_zero, List.set_cons_succ]
      refine st_value (v := (.bool false)) (by rfl) (by rfl) ?_
      simp only [Act.put, List.setIfInBounds_toArray, List.set_cons_zero, List.set_cons_succ]
      refine st_value (v := (.bool false)) (by rfl) (by rfl) ?_
      simp only [Act.put, List.setIfInBounds_toArray, List.set_cons_zero, List.set_cons_succ]
      refine st_value (v := (.bool false)) (by rfl) (by rfl) ?_
      simp only [Act.put, List.setIfInBounds_toArray, List.set_cons_zero, List.set_cons_succ]
      refine st_not (by rfl) ?_
      simp only [Act.put, List.setIfInBounds_toArray, List.set_cons_zero, List.set_cons_succ]
      refine st_not (by rfl) ?_
      simp only [Act.put, List.setIfInBounds_toArray, List.set_cons_zero, List.set_cons_succ]
      refine st_not (by rfl) ?_
      simp only [Act.put, List.setIfInBounds_toArray, List.set_cons_zero, List.set_cons_succ]
      refine st_not (by rfl) ?_
      simp only [Act.put, List.setIfInBounds_toArray, List.set_cons_zero, List.set_cons_succ]
      refine st_not (by rfl) ?_
      simp only [Act.put, List.setIfInBounds_toArray, List.set_cons_zero, List.set_cons_succ]
      refine st_value (v := (.bool false)) (by rfl) (by rfl) ?_
      simp only [Act.put, List.setIfInBounds_toArray, List.set_cons_zero, List.set_cons_succ]
      refine st_value (v := (.bool false)) (by rfl) (by rfl) ?_
      simp only [Act.put, List.setIfInBounds_toArray, List.set_cons_zero, List.set_cons_succ]
      refine st_value (v := (.bool false)) (by rfl) (by rfl) ?_
      simp only [Act.put, List.setIfInBounds_toArray, List.set_cons_zero, List.set_cons_succ]
      refine st_value (v := (.bool false)) (by rfl) (by rfl) ?_
      simp only [Act.put, List.setIfInBounds_toArray, List.set_cons_zero, List.set_cons_succ]
      refine st_value (v := (.bool true)) (by rfl) (run_not (.tmp 62) rfl (b := false) rfl w35) ?_
      simp only [Act.put, List.setIfInBounds_toArray, List.set_cons_zero, List.set_cons_succ]
      refine st_value (v := (.bool true)) (by rfl) (by rfl) ?_
      simp only [Act.put, List.setIfInBounds_toArray, List.set_cons_zero, List.set_cons_succ]
      refine st_value (v := (.int .i64 (nth (ints (mem S 1024)) 0))) (by rfl) (by rfl) ?_
      simp only [Act.put, List.setIfInBounds_toArray, List.set_cons_zero, List.set_cons_succ]
      refine st_value (v := (.bool false)) (by rfl) (run_neq_int_t (.tmp 65) (.const (.int .i64 0)) rfl rfl rfl (nth_none hp38) w35) ?_
      simp only [Act.put, List.setIfInBounds_toArray, List.set_cons_zero, List.set_cons_succ]
      refine st_value (v := (.bool false)) (by rfl) (by rfl) ?_
      simp only [Act.put, List.setIfInBounds_toArray, List.set_cons_zero, List.set_cons_succ]
      refine st_value (v := (.bool false)) (by rfl) (by rfl) ?_
      simp only [Act.put, List.setIfInBounds_toArray, List.set_cons_zero, List.set_cons_succ]
      refine wpList_nil ?_
      show Code.wp _ _ _ _ _
      refine wp_cond_false rfl ?_
      refine wp_skip ?_
      show Code.wp _ _ _ _ _
      refine wp_seq ?_
      refine wp_seq ?_
      refine wp_region_lit ?_
      refine st_value (v := (.int .i64 ((fge f (ints (mem S 1024))).1))) (by rfl) (by rfl) ?_
      simp only [Act.put, List.setIfInBounds_toArray, List.set_cons_zero, List.set_cons_succ]
      refine st_value (v := (.int .i64 ((fge f (ints (mem S 1024))).1))) (by rfl) (by rfl) ?_
      simp only [Act.put, List.setIfInBounds_toArray, List.set_cons_zero, List.set_cons_succ]
      refine st_value (v := (.bool false)) (by rfl) (run_neq_int_t (.tmp 69) (.tmp 70) rfl rfl rfl rfl w35) ?_
      simp only [Act.put, List.setIfInBounds_toArray, List.set_cons_zero, List.set_cons_succ]
      refine st_value (v := (.bool false)) (by rfl) (by rfl) ?_
      simp only [Act.put, List.setIfInBounds_toArray, List.set_cons_zero, List.set_cons_succ]
      refine st_value (v := (.bool ((fge f (ints (mem S 1024))).2))) (by rfl) (by rfl) ?_
      simp only [Act.put, List.setIfInBounds_toArray, List.set_cons_zero, List.set_cons_succ]
      refine st_value (v := (.bool ((fge f (ints (mem S 1024))).2))) (by rfl) (by rfl) ?_
      simp only [Act.put, List.setIfInBounds_toArray, List.set_cons_zero, List.set_cons_succ]
      refine st_value (v := (.bool false)) (by rfl) (run_neq_bool_t (.tmp 73) (.tmp 74) rfl rfl rfl w35) ?_
      simp only [Act.put, List.setIfInBounds_toArray, List.set_cons_zero, List.set_cons_succ]
      refine st_value (v := (.bool false)) (by rfl) (by rfl) ?_
      simp only [Act.put, List.setIfInBounds_toArray, List.set_cons_zero, List.set_cons_succ]
      refine st_value (v := (.bool false)) (by rfl) (by rfl) ?_
      simp only [Act.put, List.setIfInBounds_toArray, List.set_cons_zero, List.set_cons_succ]
      refine st_value (v := (.slice A28 (ints (mem S 1024)).length c29)) (by rfl) (by rfl) ?_
      simp only [Act.put, List.setIfInBounds_toArray, List.set_cons_zero, List.set_cons_succ]
      refine st_value (v := (.int .i64 ((ints (mem S 1024)).length : Int))) (by rfl) (run_len (.tmp 78) rfl ⟨_, Tryd.underlying36⟩ rfl w35) ?_
      simp only [Act.put, List.setIfInBounds_toArray, List.set_cons_zero, List.set_cons_succ]
      refine st_value (v := (.slice A11 (ints (mem S 1024)).length c12)) (by rfl) (by rfl) ?_
      simp only [Act.put, List.setIfInBounds_toArray, List.set_cons_zero, List.set_cons_succ]
      refine st_value (v := (.int .i64 ((ints (mem S 1024)).length : Int))) (by rfl) (run_len (.tmp 80) rfl ⟨_, Tryd.underlying36⟩ rfl w35) ?_
      simp only [Act.put, List.setIfInBounds_toArray, List.set_cons_zero, List.set_cons_succ]
      refine st_value (v := (.bool false)) (by rfl) (run_neq_int_t (.tmp 79) (.tmp 81) rfl rfl rfl rfl w35) ?_
      simp only [Act.put, List.setIfInBounds_toArray, List.set_cons_zero, List.set_cons_succ]
      refine st_value (v := (.bool false)) (by rfl) (by rfl) ?_
      simp only [Act.put, List.setIfInBounds_toArray, List.set_cons_zero, List.set_cons_succ]
      refine st_value (v := (.bool false)) (by rfl) (by rfl) ?_
      simp only [Act.put, List.setIfInBounds_toArray, List.set_cons_zero, List.set_cons_succ]
      refine st_value (v := (.agg (setA S))) (by rfl) (run_load_set (.tmp 2) rfl _ rfl S B3) ?_
      simp only [Act.put, List.setIfInBounds_toArray, List.set_cons_zero, List.set_cons_succ]
      refine st_call1 (v := (.int .i64 ((card S : Nat) : Int))) (by rfl) (run_call_28_1 (.tmp 85) rfl rfl _) (len_calls S w35) ?_
      intro w39 hb40
      simp only [Act.put, List.setIfInBounds_toArray, List.set_cons_zero, List.set_cons_succ]
      replace B3 := B3.below hb40
      replace R17 := R17.same hb40
      replace R34 := R34.same hb40
      replace bel := bl_step bel hb40
      clear hb40
      refine st_value (v := (.slice A11 (ints (mem S 1024)).length c12)) (by rfl) (by rfl) ?_
      simp only [Act.put, List.setIfInBounds_toArray, List.set_cons_zero, List.set_cons_succ]
      refine st_value (v := (.int .i64 ((ints (mem S 1024)).length : Int))) (by rfl) (run_len (.tmp 87) rfl ⟨_, Tryd.underlying36⟩ rfl w39) ?_
      simp only [Act.put, List.setIfInBounds_toArray, List.set_cons_zero, List.set_cons_succ]
      refine st_value (v := (.bool false)) (by rfl) (run_neq_int_t (.tmp 86) (.tmp 88) rfl rfl rfl (card_ints S) w39) ?_
      simp only [Act.put, List.setIfInBounds_toArray, List.set_cons_zero, List.set_cons_succ]
      refine st_value (v := (.bool false)) (by rfl) (by rfl) ?_
      simp only [Act.put, List.setIfInBounds_toArray, List.set_cons_zero, List.set_cons_succ]
      refine wpList_nil ?_
      show Code.wp _ _ _ _ _
      refine wp_cond_false rfl ?_
      refine wp_skip ?_
      show Code.wp _ _ _ _ _
      refine wp_seq ?_
      refine wp_seq ?_
      refine wp_region_lit ?_
      refine st_value (v := (.slice A11 (ints (mem S 1024)).length c12)) (by rfl) (by rfl) ?_
      simp only [Act.put, List.setIfInBounds_toArray, List.set_cons_zero, List.set_cons_succ]
      refine st_value (v := (.int .i64 ((ints (mem S 1024)).length : Int))) (by rfl) (run_len (.tmp 91) rfl ⟨_, Tryd.underlying36⟩ rfl w39) ?_
      simp only [Act.put, List.setIfInBounds_toArray, List.set_cons_zero, List.set_cons_succ]
      refine st_value (v := (.int .i64 0)) (by rfl) (by rfl) ?_
      simp only [Act.put, List.setIfInBounds_toArray, List.set_cons_zero, List.set_cons_succ]
      refine wpList_nil ?_
      show Code.wp _ _ _ _ _
      refine wp_block ?_
      refine wp_loop_left (fun n_ a_ wr_ => ∃ (i : Nat) (j4 : Value) (j15 : Value) (j94 : Value) (j95 : Value) (j96 : Value) (j97 : Value) (j98 : Value) (j99 : Value) (j100 : Value) (j101 : Value) (j102 : Value) (j103 : Value) (j104 : Value) (j105 : Value), n_ = (ints (mem S 1024)).length - i ∧ a_ = ⟨#[.agg (setA S), .int .i64 f, .pointer (some ⟨g1, 0, none⟩), undef, j4, .int .i64 ((fge f (ints (mem S 1024))).1), .bool ((fge f (ints (mem S 1024))).2), .slice A11 (ints (mem S 1024)).length c12, undef, j9, .int .i64 ((fge f (ints (mem S 1024))).1), .bool ((fge f (ints (mem S 1024))).2), .slice A28 (ints (mem S 1024)).length c29, .int .i64 (nth (ints (mem S 1024)) 0), .bool false, j15, .agg (setA S), .slice A11 (ints (mem S 1024)).length c12, .slice A11 (ints (mem S 1024)).length c12, .int .i64 ((ints (mem S 1024)).length : Int), .int .i64 ((ints (mem S 1024)).length : Int), .bool false, j22, j23, j24, j25, j26, j27, j28, j29, j30, j31, j32, .tuple #[.int .i64 ((fge f (ints (mem S 1024))).1), .bool ((fge f (ints (mem S 1024))).2)], .agg (setA S), .int .i64 f, .tuple #[.int .i64 ((fge f (ints (mem S 1024))).1), .bool ((fge f (ints (mem S 1024))).2)], .int .i64 ((fge f (ints (mem S 1024))).1), .bool ((fge f (ints (mem S 1024))).2), .agg (setA S), .slice A28 (ints (mem S 1024)).length c29, .tuple #[.int .i64 (nth (ints (mem S 1024)) 0), .bool false], .agg (setA S), .tuple #[.int .i64 (nth (ints (mem S 1024)) 0), .bool false], .int .i64 (nth (ints (mem S 1024)) 0), .bool false, .bool false, .slice A11 (ints (mem S 1024)).length c12, .int .i64 ((ints (mem S 1024)).length : Int), .bool false, .bool false, .bool false, .bool false, .bool false, undef, undef, undef, undef, undef, .bool false, .bool false, .bool false, .bool false, .bool true, .bool true, .int .i64 (nth (ints (mem S 1024)) 0), .bool false, .bool false, .bool false, .int .i64 ((fge f (ints (mem S 1024))).1), .int .i64 ((fge f (ints (mem S 1024))).1), .bool false, .bool false, .bool ((fge f (ints (mem S 1024))).2), .bool ((fge f (ints (mem S 1024))).2), .bool false, .bool false, .bool false, .slice A28 (ints (mem S 1024)).length c29, .int .i64 ((ints (mem S 1024)).length : Int), .slice A11 (ints (mem S 1024)).length c12, .int .i64 ((ints (mem S 1024)).length : Int), .bool false, .bool false, .bool false, .agg (setA S), .int .i64 ((card S : Nat) : Int), .slice A11 (ints (mem S 1024)).length c12, .int .i64 ((ints (mem S 1024)).length : Int), .bool false, .bool false, .slice A11 (ints (mem S 1024)).length c12, .int .i64 ((ints (mem S 1024)).length : Int), .int .i64 (i : Int), j94, j95, j96, j97, j98, j99, j100, j101, j102, j103, j104, j105, undef], []⟩ ∧ Blk wr_ g1 (setA S) 24 ∧ Reads wr_ A11 ((ints (mem S 1024)).map (Value.int .i64)) ∧ Reads wr_ A28 ((ints (mem S 1024)).map (Value.int .i64)) ∧ Below w.heap.size w wr_ ∧ i ≤ (ints (mem S 1024)).length) ((ints (mem S 1024)).length - 0) ⟨0, (.bool false), undef, undef, undef, undef, undef, undef, undef, undef, undef, undef, undef, undef, undef, rfl, rfl, B3, R17, R34, bel, Nat.zero_le _⟩ ?_
      clear B3
      clear R17
      clear R34
      clear bel
      rintro n_ a_ w41 ⟨i, j4, j15, j94, j95, j96, j97, j98, j99, j100, j101, j102, j103, j104, j105, hn, rfl, B3, R17, R34, bel, hi⟩
      refine wp_seq ?_
      refine wp_region_lit ?_
      refine st_value (v := (.bool (decide ((i : Int) < ((ints (mem S 1024)).length : Int))))) (by rfl) (run_lss (.tmp 93) (.tmp 92) rfl rfl rfl w41) ?_
      simp only [Act.put, List.setIfInBounds_toArray, List.set_cons_zero, List.set_cons_succ]
      refine wpList_nil ?_
      show Code.wp _ _ _ _ _
      refine wp_seq ?_
      cases hg42 : decide ((i : Int) < ((ints (mem S 1024)).length : Int))
      · have hp43 := of_decide_eq_false hg42
        refine wp_cond_false rfl ?_
        refine wp_exit ?_
        show Code.wp _ _ _ _ _
        refine wp_seq ?_
        refine wp_region_lit ?_
        refine st_call1 (v := (.bool true)) (by rfl) (run_call_12_0  rfl  _) (lives_calls w41 (hB.same bel)) ?_
        intro w44 hb45
        simp only [Act.put, List.setIfInBounds_toArray, List.set_cons_zero, List.set_cons_succ]
        replace B3 := B3.below hb45
        replace R17 := R17.same hb45
        replace R34 := R34.same hb45
        replace bel := bl_step bel hb45
        clear hb45
        refine st_value (v := (.bool true)) (by rfl) (by rfl) ?_
        simp only [Act.put, List.setIfInBounds_toArray, List.set_cons_zero, List.set_cons_succ]
        refine wpList_nil ?_
        show Code.wp _ _ _ _ _
        refine wp_ret ?_
        show bodyPost _ _ _ _ _ _
        exact bodyPost_ret (results_tmp rfl _ _ _) rfl ⟨rfl, bel⟩
      · have hp46 := of_decide_eq_true hg42
        obtain ⟨b47, o48, rfl, _⟩ := R17.at_ (by simp only [List.length_map]; omega)
        obtain ⟨b49, o50, rfl, _⟩ := R34.at_ (by simp only [List.length_map]; omega)
        refine wp_cond_true rfl ?_
        refine wp_skip ?_
        show Code.wp _ _ _ _ _
        refine wp_seq ?_
        refine wp_block ?_
        refine wp_seq ?_
        refine wp_region_lit ?_
        refine st_value (v := (.int .i64 (i : Int))) (by rfl) (by rfl) ?_
        simp only [Act.put, List.setIfInBounds_toArray, List.set_cons_zero, List.set_cons_succ]
        refine st_value (v := (.int .i64 (i : Int))) (by rfl) (by rfl) ?_
        simp only [Act.put, List.setIfInBounds_toArray, List.set_cons_zero, List.set_cons_succ]
        refine wpList_nil ?_
        show Code.wp _ _ _ _ _
        refine wp_seq ?_
        refine wp_region_facts_lit (C := Abv w41) (G := G0) [.val (.slice (some ⟨b49, o50, none⟩) (ints (mem S 1024)).length c29), .val (.int .i64 (i : Int)), .val (.pointer (some ⟨b49, o50 + i * 1, none⟩)), .val (.int .i64 (nth (ints (mem S 1024)) i)), .val (.slice (some ⟨b47, o48, none⟩) (ints (mem S 1024)).length c12), .val (.int .i64 (i : Int)), .val (.pointer (some ⟨b47, o48 + i * 1, none⟩)), .val (.int .i64 (nth (ints (mem S 1024)) i)), .val (.bool false)] (by kernel_rfl) (by kernel_rfl) (Abv.start _) ?_
        refine fsteps_val (fun W hC _ => opok_value (v := (.slice (some ⟨b49, o50, none⟩) (ints (mem S 1024)).length c29)) (by rfl) (by rfl) rfl hC (G0.refl _)) ?_
        simp only [Act.put, List.setIfInBounds_toArray, List.set_cons_zero, List.set_cons_succ]
        refine fsteps_val (fun W hC _ => opok_value (v := (.int .i64 (i : Int))) (by rfl) (by rfl) rfl hC (G0.refl _)) ?_
        simp only [Act.put, List.setIfInBounds_toArray, List.set_cons_zero, List.set_cons_succ]
        refine fsteps_val (fun W hC _ => opok_value (v := (.pointer (some ⟨b49, o50 + i * 1, none⟩))) (by rfl) (run_indexAddrN (.tmp 96) (.tmp 97) rfl Tryd.underlying36 slInt.sz (i := i) rfl rfl (by omega) W) rfl hC (G0.refl _)) ?_
        simp only [Act.put, List.setIfInBounds_toArray, List.set_cons_zero, List.set_cons_succ]
        refine fsteps_val (fun W hC _ => opok_value (v := (.int .i64 (nth (ints (mem S 1024)) i))) (by rfl) (run_load1 (.tmp 98) rfl Tryd.underlying3 rfl slInt.sz rfl (Reads.intAt (R34.same hC) i (by omega))) rfl hC (G0.refl _)) ?_
        simp only [Act.put, List.setIfInBounds_toArray, List.set_cons_zero, List.set_cons_succ]
        refine fsteps_val (fun W hC _ => opok_value (v := (.slice (some ⟨b47, o48, none⟩) (ints (mem S 1024)).length c12)) (by rfl) (by rfl) rfl hC (G0.refl _)) ?_
        simp only [Act.put, List.setIfInBounds_toArray, List.set_cons_zero, List.set_cons_succ]
        refine fsteps_val (fun W hC _ => opok_value (v := (.int .i64 (i : Int))) (by rfl) (by rfl) rfl hC (G0.refl _)) ?_
        simp only [Act.put, List.setIfInBounds_toArray, List.set_cons_zero, List.set_cons_succ]
        refine fsteps_val (fun W hC _ => opok_value (v := (.pointer (some ⟨b47, o48 + i * 1, none⟩))) (by rfl) (run_indexAddrN (.tmp 100) (.tmp 101) rfl Tryd.underlying36 slInt.sz (i := i) rfl rfl (by omega) W) rfl hC (G0.refl _)) ?_
        simp only [Act.put, List.setIfInBounds_toArray, List.set_cons_zero, List.set_cons_succ]
        refine fsteps_val (fun W hC _ => opok_value (v := (.int .i64 (nth (ints (mem S 1024)) i))) (by rfl) (run_load1 (.tmp 102) rfl Tryd.underlying3 rfl slInt.sz rfl (Reads.intAt (R17.same hC) i (by omega))) rfl hC (G0.refl _)) ?_
        simp only [Act.put, List.setIfInBounds_toArray, List.set_cons_zero, List.set_cons_succ]
        refine fsteps_val (fun W hC _ => opok_value (v := (.bool false)) (by rfl) (run_neq_int_t (.tmp 99) (.tmp 103) rfl rfl rfl rfl W) rfl hC (G0.refl _)) ?_
        simp only [Act.put, List.setIfInBounds_toArray, List.set_cons_zero, List.set_cons_succ]
        refine fsteps_nil fun w51 hC _ => ?_
        replace hC : Below w41.heap.size w41 w51 := hC
        replace B3 := B3.below hC
        replace R17 := R17.same hC
        replace R34 := R34.same hC
        replace bel := bl_step bel hC
        clear hC
        show Code.wp _ _ _ _ _
        refine wp_cond_false rfl ?_
        refine wp_skip ?_
        show Code.wp _ _ _ _ _
        refine wp_region_lit ?_
        refine st_value (v := (.int .i64 ((i : Int) + 1))) (by rfl) (run_add_in (.tmp 93) (.const (.int .i64 1)) rfl rfl rfl (by omega) w51) ?_
        simp only [Act.put, List.setIfInBounds_toArray, List.set_cons_zero, List.set_cons_succ]
        refine st_value (v := (.int .i64 ((i : Int) + 1))) (by rfl) (by rfl) ?_
        simp only [Act.put, List.setIfInBounds_toArray, List.set_cons_zero, List.set_cons_succ]
        refine wpList_nil ?_
        show ∃ m, m < _ ∧ _
        exact ⟨_, (by omega), (i + 1), j4, (.int .i64 (i : Int)), (.bool true), (.int .i64 (i : Int)), (.slice (some ⟨b49, o50, none⟩) (ints (mem S 1024)).length c29), (.int .i64 (i : Int)), (.pointer (some ⟨b49, o50 + i * 1, none⟩)), (.int .i64 (nth (ints (mem S 1024)) i)), (.slice (some ⟨b47, o48, none⟩) (ints (mem S 1024)).length c12), (.int .i64 (i : Int)), (.pointer (some ⟨b47, o48 + i * 1, none⟩)), (.int .i64 (nth (ints (mem S 1024)) i)), (.bool false), (.int .i64 ((i : Int) + 1)), rfl, rfl, B3, R17, R34, bel, (by omega)⟩
    · have hp52 := of_decide_eq_true hg37
      obtain ⟨b53, o54, rfl, _⟩ := R17.at_ (by simp only [List.length_map]; omega)
      obtain ⟨b55, o56, rfl, _⟩ := R34.at_ (by simp only [List.length_map]; omega)
      refine wp_region_lit ?_
      refine st_value (v := (.bool true)) (by rfl) (by rfl) ?_
      simp only [Act.put, List.setIfInBounds_toArray, List.set_cons_zero, List.set_cons_succ]
      refine st_value (v := (.slice (some ⟨b53, o54, none⟩) (ints (mem S 1024)).length c12)) (by rfl) (by rfl) ?_
      simp only [Act.put, List.setIfInBounds_toArray, List.set_cons_zero, List.set_cons_succ]
      refine st_value (v := (.int .i64 ((ints (mem S 1024)).length : Int))) (by rfl) (run_len (.tmp 47) rfl ⟨_, Tryd.underlying36⟩ rfl w35) ?_
      simp only [Act.put, List.setIfInBounds_toArray, List.set_cons_zero, List.set_cons_succ]
      refine st_value (v := (.bool true)) (by rfl) ((run_gtr (.tmp 48) (.const (.int .i64 0)) rfl rfl rfl w35).trans (by rw [hg37])) ?_
      simp only [Act.put, List.setIfInBounds_toArray, List.set_cons_zero, List.set_cons_succ]
      refine st_value (v := (.bool false)) (by rfl) (run_neq_bool_t (.tmp 46) (.tmp 49) rfl rfl rfl w35) ?_
      simp only [Act.put, List.setIfInBounds_toArray, List.set_cons_zero, List.set_cons_succ]
      refine st_value (v := (.bool false)) (by rfl) (by rfl) ?_
      simp only [Act.put, List.setIfInBounds_toArray, List.set_cons_zero, List.set_cons_succ]
      refine st_value (v := (.bool true)) (by rfl) (by rfl) ?_
      simp only [Act.put, List.setIfInBounds_toArray, List.set_cons_zero, List.set_cons_succ]
      refine st_value (v := (.bool true)) (by rfl) (by rfl) ?_
      simp only [Act.put, List.setIfInBounds_toArray, List.set_cons_zero, List.set_cons_succ]
      refine st_value (v := (.int .i64 (nth (ints (mem S 1024)) 0))) (by rfl) (by rfl) ?_
      simp only [Act.put, List.setIfInBounds_toArray, List.set_cons_zero, List.set_cons_succ]
      refine st_value (v := (.slice (some ⟨b53, o54, none⟩) (ints (mem S 1024)).length c12)) (by rfl) (by rfl) ?_
      simp only [Act.put, List.setIfInBounds_toArray, List.set_cons_zero, List.set_cons_succ]
      refine st_value (v := (.pointer (some ⟨b53, o54 + 0 * 1, none⟩))) (by rfl) (run_indexAddrN (.tmp 55) (.const (.int .i64 0)) rfl Tryd.underlying36 slInt.sz (i := 0) rfl rfl (by omega) w35) ?_
      simp only [Act.put, List.setIfInBounds_toArray, List.set_cons_zero, List.set_cons_succ]
      refine st_value (v := (.int .i64 (nth (ints (mem S 1024)) 0))) (by rfl) (run_load1 (.tmp 56) rfl Tryd.underlying3 rfl slInt.sz rfl (Reads.intAt R17 0 (by omega))) ?_
      simp only [Act.put, List.setIfInBounds_toArray, List.set_cons_zero, List.set_cons_succ]
      refine st_value (v := (.bool false)) (by rfl) (run_neq_int_t (.tmp 54) (.tmp 57) rfl rfl rfl rfl w35) ?_
      simp only [Act.put, List.setIfInBounds_toArray, List.set_cons_zero, List.set_cons_succ]
      refine st_value (v := (.bool false)) (by rfl) (by rfl) ?_
      simp only [Act.put, List.setIfInBounds_toArray, List.set_cons_zero, List.set_cons_succ]
      refine st_value (v := (.bool false)) (by rfl) (by rfl) ?_
      simp only [Act.put, List.setIfInBounds_toArray, List.set_cons_zero, List.set_cons_succ]
      refine st_value (v := (.bool false)) (by rfl) (by rfl) ?_
      simp only [Act.put, List.setIfInBounds_toArray, List.set_cons_zero, List.set_cons_succ]
      refine st_value (v := (.bool true)) (by rfl) (by rfl) ?_
      simp only [Act.put, List.setIfInBounds_toArray, List.set_cons_zero, List.set_cons_succ]
      refine st_value (v := (.bool false)) (by rfl) (run_not (.tmp 62) rfl (b := true) rfl w35) ?_
      simp only [Act.put, List.setIfInBounds_toArray, List.set_cons_zero, List.set_cons_succ]
      refine st_value (v := (.bool false)) (by rfl) (by rfl) ?_
      simp only [Act.put, List.setIfInBounds_toArray, List.set_cons_zero, List.set_cons_succ]
      refine st_not (by rfl) ?_
      simp only [Act.put, List.setIfInBounds_toArray, List.set_cons_zero, List.set_cons_succ]
      refine st_not (by rfl) ?_
      simp only [Act.put, List.setIfInBounds_toArray, List.set_cons_zero, List.set_cons_succ]
      refine st_value (v := (.bool false)) (by rfl) (by rfl) ?_
      simp only [Act.put, List.setIfInBounds_toArray, List.set_cons_zero, List.set_cons_succ]
      refine st_value (v := (.bool false)) (by rfl) (by rfl) ?_
      simp only [Act.put, List.setIfInBounds_toArray, List.set_cons_zero, List.set_cons_succ]
      refine wpList_nil ?_
      show Code.wp _ _ _ _ _
      refine wp_cond_false rfl ?_
      refine wp_skip ?_
      show Code.wp _ _ _ _ _
      refine wp_seq ?_
      refine wp_seq ?_
      refine wp_region_lit ?_
      refine st_value (v := (.int .i64 ((fge f (ints (mem S 1024))).1))) (by rfl) (by rfl) ?_
      simp only [Act.put, List.setIfInBounds_toArray, List.set_cons_zero, List.set_cons_succ]
      refine st_value (v := (.int .i64 ((fge f (ints (mem S 1024))).1))) (by rfl) (by rfl) ?_
      simp only [Act.put, List.setIfInBounds_toArray, List.set_cons_zero, List.set_cons_succ]
      refine st_value (v := (.bool false)) (by rfl) (run_neq_int_t (.tmp 69) (.tmp 70) rfl rfl rfl rfl w35) ?_
      simp only [Act.put, List.setIfInBounds_toArray, List.set_cons_zero, List.set_cons_succ]
      refine st_value (v := (.bool false)) (by rfl) (by rfl) ?_
      simp only [Act.put, List.setIfInBounds_toArray, List.set_cons_zero, List.set_cons_succ]
      refine st_value (v := (.bool ((fge f (ints (mem S 1024))).2))) (by rfl) (by rfl) ?_
      simp only [Act.put, List.setIfInBounds_toArray, List.set_cons_zero, List.set_cons_succ]
      refine st_value (v := (.bool ((fge f (ints (mem S 1024))).2))) (by rfl) (by rfl) ?_
      simp only [Act.put, List.setIfInBounds_toArray, List.set_cons_zero, List.set_cons_succ]
      refine st_value (v := (.bool false)) (by rfl) (run_neq_bool_t (.tmp 73) (.tmp 74) rfl rfl rfl w35) ?_
      simp only [Act.put, List.setIfInBounds_toArray, List.set_cons_zero, List.set_cons_succ]
      refine st_value (v := (.bool false)) (by rfl) (by rfl) ?_
      simp only [Act.put, List.setIfInBounds_toArray, List.set_cons_zero, List.set_cons_succ]
      refine st_value (v := (.bool false)) (by rfl) (by rfl) ?_
      simp only [Act.put, List.setIfInBounds_toArray, List.set_cons_zero, List.set_cons_succ]
      refine st_value (v := (.slice (some ⟨b55, o56, none⟩) (ints (mem S 1024)).length c29)) (by rfl) (by rfl) ?_
      simp only [Act.put, List.setIfInBounds_toArray, List.set_cons_zero, List.set_cons_succ]
      refine st_value (v := (.int .i64 ((ints (mem S 1024)).length : Int))) (by rfl) (run_len (.tmp 78) rfl ⟨_, Tryd.underlying36⟩ rfl w35) ?_
      simp only [Act.put, List.setIfInBounds_toArray, List.set_cons_zero, List.set_cons_succ]
      refine st_value (v := (.slice (some ⟨b53, o54, none⟩) (ints (mem S 1024)).length c12)) (by rfl) (by rfl) ?_
      simp only [Act.put, List.setIfInBounds_toArray, List.set_cons_zero, List.set_cons_succ]
      refine st_value (v := (.int .i64 ((ints (mem S 1024)).length : Int))) (by rfl) (run_len (.tmp 80) rfl ⟨_, Tryd.underlying36⟩ rfl w35) ?_
      simp only [Act.put, List.setIfInBounds_toArray, List.set_cons_zero, List.set_cons_succ]
      refine st_value (v := (.bool false)) (by rfl) (run_neq_int_t (.tmp 79) (.tmp 81) rfl rfl rfl rfl w35) ?_
      simp only [Act.put, List.setIfInBounds_toArray, List.set_cons_zero, List.set_cons_succ]
      refine st_value (v := (.bool false)) (by rfl) (by rfl) ?_
      simp only [Act.put, List.setIfInBounds_toArray, List.set_cons_zero, List.set_cons_succ]
      refine st_value (v := (.bool false)) (by rfl) (by rfl) ?_
      simp only [Act.put, List.setIfInBounds_toArray, List.set_cons_zero, List.set_cons_succ]
      refine st_value (v := (.agg (setA S))) (by rfl) (run_load_set (.tmp 2) rfl _ rfl S B3) ?_
      simp only [Act.put, List.setIfInBounds_toArray, List.set_cons_zero, List.set_cons_succ]
      refine st_call1 (v := (.int .i64 ((card S : Nat) : Int))) (by rfl) (run_call_28_1 (.tmp 85) rfl rfl _) (len_calls S w35) ?_
      intro w57 hb58
      simp only [Act.put, List.setIfInBounds_toArray, List.set_cons_zero, List.set_cons_succ]
      replace B3 := B3.below hb58
      replace R17 := R17.same hb58
      replace R34 := R34.same hb58
      replace bel := bl_step bel hb58
      clear hb58
      refine st_value (v := (.slice (some ⟨b53, o54, none⟩) (ints (mem S 1024)).length c12)) (by rfl) (by rfl) ?_
      simp only [Act.put, List.setIfInBounds_toArray, List.set_cons_zero, List.set_cons_succ]
      refine st_value (v := (.int .i64 ((ints (mem S 1024)).length : Int))) (by rfl) (run_len (.tmp 87) rfl ⟨_, Tryd.underlying36⟩ rfl w57) ?_
      simp only [Act.put, List.setIfInBounds_toArray, List.set_cons_zero, List.set_cons_succ]
      refine st_value (v := (.bool false)) (by rfl) (run_neq_int_t (.tmp 86) (.tmp 88) rfl rfl rfl (card_ints S) w57) ?_
      simp only [Act.put, List.setIfInBounds_toArray, List.set_cons_zero, List.set_cons_succ]
      refine st_value (v := (.bool false)) (by rfl) (by rfl) ?_
      simp only [Act.put, List.setIfInBounds_toArray, List.set_cons_zero, List.set_cons_succ]
      refine wpList_nil ?_
      show Code.wp _ _ _ _ _
      refine wp_cond_false rfl ?_
      refine wp_skip ?_
      show Code.wp _ _ _ _ _
      refine wp_seq ?_
      refine wp_seq ?_
      refine wp_region_lit ?_
      refine st_value (v := (.slice (some ⟨b53, o54, none⟩) (ints (mem S 1024)).length c12)) (by rfl) (by rfl) ?_
      simp only [Act.put, List.setIfInBounds_toArray, List.set_cons_zero, List.set_cons_succ]
      refine st_value (v := (.int .i64 ((ints (mem S 1024)).length : Int))) (by rfl) (run_len (.tmp 91) rfl ⟨_, Tryd.underlying36⟩ rfl w57) ?_
      simp only [Act.put, List.setIfInBounds_toArray, List.set_cons_zero, List.set_cons_succ]
      refine st_value (v := (.int .i64 0)) (by rfl) (by rfl) ?_
      simp only [Act.put, List.setIfInBounds_toArray, List.set_cons_zero, List.set_cons_succ]
      refine wpList_nil ?_
      show Code.wp _ _ _ _ _
      refine wp_block ?_
      refine wp_loop_left (fun n_ a_ wr_ => ∃ (i : Nat) (j4 : Value) (j15 : Value) (j94 : Value) (j95 : Value) (j96 : Value) (j97 : Value) (j98 : Value) (j99 : Value) (j100 : Value) (j101 : Value) (j102 : Value) (j103 : Value) (j104 : Value) (j105 : Value), n_ = (ints (mem S 1024)).length - i ∧ a_ = ⟨#[.agg (setA S), .int .i64 f, .pointer (some ⟨g1, 0, none⟩), undef, j4, .int .i64 ((fge f (ints (mem S 1024))).1), .bool ((fge f (ints (mem S 1024))).2), .slice (some ⟨b53, o54, none⟩) (ints (mem S 1024)).length c12, undef, j9, .int .i64 ((fge f (ints (mem S 1024))).1), .bool ((fge f (ints (mem S 1024))).2), .slice (some ⟨b55, o56, none⟩) (ints (mem S 1024)).length c29, .int .i64 (nth (ints (mem S 1024)) 0), .bool true, j15, .agg (setA S), .slice (some ⟨b53, o54, none⟩) (ints (mem S 1024)).length c12, .slice (some ⟨b53, o54, none⟩) (ints (mem S 1024)).length c12, .int .i64 ((ints (mem S 1024)).length : Int), .int .i64 ((ints (mem S 1024)).length : Int), .bool false, j22, j23, j24, j25, j26, j27, j28, j29, j30, j31, j32, .tuple #[.int .i64 ((fge f (ints (mem S 1024))).1), .bool ((fge f (ints (mem S 1024))).2)], .agg (setA S), .int .i64 f, .tuple #[.int .i64 ((fge f (ints (mem S 1024))).1), .bool ((fge f (ints (mem S 1024))).2)], .int .i64 ((fge f (ints (mem S 1024))).1), .bool ((fge f (ints (mem S 1024))).2), .agg (setA S), .slice (some ⟨b55, o56, none⟩) (ints (mem S 1024)).length c29, .tuple #[.int .i64 (nth (ints (mem S 1024)) 0), .bool true], .agg (setA S), .tuple #[.int .i64 (nth (ints (mem S 1024)) 0), .bool true], .int .i64 (nth (ints (mem S 1024)) 0), .bool true, .bool true, .slice (some ⟨b53, o54, none⟩) (ints (mem S 1024)).length c12, .int .i64 ((ints (mem S 1024)).length : Int), .bool true, .bool false, .bool false, .bool true, .bool true, .int .i64 (nth (ints (mem S 1024)) 0), .slice (some ⟨b53, o54, none⟩) (ints (mem S 1024)).length c12, .pointer (some ⟨b53, o54 + 0 * 1, none⟩), .int .i64 (nth (ints (mem S 1024)) 0), .bool false, .bool false, .bool false, .bool false, .bool true, .bool false, .bool false, undef, undef, .bool false, .bool false, .int .i64 ((fge f (ints (mem S 1024))).1), .int .i64 ((fge f (ints (mem S 1024))).1), .bool false, .bool false, .bool ((fge f (ints (mem S 1024))).2), .bool ((fge f (ints (mem S 1024))).2), .bool false, .bool false, .bool false, .slice (some ⟨b55, o56, none⟩) (ints (mem S 1024)).length c29, .int .i64 ((ints (mem S 1024)).length : Int), .slice (some ⟨b53, o54, none⟩) (ints (mem S 1024)).length c12, .int .i64 ((ints (mem S 1024)).length : Int), .bool false, .bool false, .bool false, .agg (setA S), .int .i64 ((card S : Nat) : Int), .slice (some ⟨b53, o54, none⟩) (ints (mem S 1024)).length c12, .int .i64 ((ints (mem S 1024)).length : Int), .bool false, .bool false, .slice (some ⟨b53, o54, none⟩) (ints (mem S 1024)).length c12, .int .i64 ((ints (mem S 1024)).length : Int), .int .i64 (i : Int), j94, j95, j96, j97, j98, j99, j100, j101, j102, j103, j104, j105, undef], []⟩ ∧ Blk wr_ g1 (setA S) 24 ∧ Reads wr_ (some ⟨b53, o54, none⟩) ((ints (mem S 1024)).map (Value.int .i64)) ∧ Reads wr_ (some ⟨b55, o56, none⟩) ((ints (mem S 1024)).map (Value.int .i64)) ∧ Below w.heap.size w wr_ ∧ i ≤ (ints (mem S 1024)).length) ((ints (mem S 1024)).length - 0) ⟨0, (.bool false), undef, undef, undef, undef, undef, undef, undef, undef, undef, undef, undef, undef, undef, rfl, rfl, B3, R17, R34, bel, Nat.zero_le _⟩ ?_
      clear B3
      clear R17
      clear R34
      clear bel
      rintro n_ a_ w59 ⟨i, j4, j15, j94, j95, j96, j97, j98, j99, j100, j101, j102, j103, j104, j105, hn, rfl, B3, R17, R34, bel, hi⟩
      refine wp_seq ?_
      refine wp_region_lit ?_
      refine st_value (v := (.bool (decide ((i : Int) < ((ints (mem S 1024)).length : Int))))) (by rfl) (run_lss (.tmp 93) (.tmp 92) rfl rfl rfl w59) ?_
      simp only [Act.put, List.setIfInBounds_toArray, List.set_cons_zero, List.set_cons_succ]
      refine wpList_nil ?_
      show Code.wp _ _ _ _ _
      refine wp_seq ?_
      cases hg60 : decide ((i : Int) < ((ints (mem S 1024)).length : Int))
      · have hp61 := of_decide_eq_false hg60
        refine wp_cond_false rfl ?_
        refine wp_exit ?_
        show Code.wp _ _ _ _ _
        refine wp_seq ?_
        refine wp_region_lit ?_
        refine st_call1 (v := (.bool true)) (by rfl) (run_call_12_0  rfl  _) (lives_calls w59 (hB.same bel)) ?_
        intro w62 hb63
        simp only [Act.put, List.setIfInBounds_toArray, List.set_cons_zero, List.set_cons_succ]
        replace B3 := B3.below hb63
        replace R17 := R17.same hb63
        replace R34 := R34.same hb63
        replace bel := bl_step bel hb63
        clear hb63
        refine st_value (v := (.bool true)) (by rfl) (by rfl) ?_
        simp only [Act.put, List.setIfInBounds_toArray, List.set_cons_zero, List.set_cons_succ]
        refine wpList_nil ?_
        show Code.wp _ _ _ _ _
        refine wp_ret ?_
        show bodyPost _ _ _ _ _ _
        exact bodyPost_ret (results_tmp rfl _ _ _) rfl ⟨rfl, bel⟩
      · have hp64 := of_decide_eq_true hg60
        refine wp_cond_true rfl ?_
        refine wp_skip ?_
        show Code.wp _ _ _ _ _
        refine wp_seq ?_
        refine wp_block ?_
        refine wp_seq ?_
        refine wp_region_lit ?_
        refine st_value (v := (.int .i64 (i : Int))) (by rfl) (by rfl) ?_
        simp only [Act.put, List.setIfInBounds_toArray, List.set_cons_zero, List.set_cons_succ]
        refine st_value (v := (.int .i64 (i : Int))) (by rfl) (by rfl) ?_
        simp only [Act.put, List.setIfInBounds_toArray, List.set_cons_zero, List.set_cons_succ]
        refine wpList_nil ?_
        show Code.wp _ _ _ _ _
        refine wp_seq ?_
        refine wp_region_facts_lit (C := Abv w59) (G := G0) [.val (.slice (some ⟨b55, o56, none⟩) (ints (mem S 1024)).length c29), .val (.int .i64 (i : Int)), .val (.pointer (some ⟨b55, o56 + i * 1, none⟩)), .val (.int .i64 (nth (ints (mem S 1024)) i)), .val (.slice (some ⟨b53, o54, none⟩) (ints (mem S 1024)).length c12), .val (.int .i64 (i : Int)), .val (.pointer (some ⟨b53, o54 + i * 1, none⟩)), .val (.int .i64 (nth (ints (mem S 1024)) i)), .val (.bool false)] (by kernel_rfl) (by kernel_rfl) (Abv.start _) ?_
        refine fsteps_val (fun W hC _ => opok_value (v := (.slice (some ⟨b55, o56, none⟩) (ints (mem S 1024)).length c29)) (by rfl) (by rfl) rfl hC (G0.refl _)) ?_
        simp only [Act.put, List.setIfInBounds_toArray, List.set_cons_zero, List.set_cons_succ]
        refine fsteps_val (fun W hC _ => opok_value (v := (.int .i64 (i : Int))) (by rfl) (by rfl) rfl hC (G0.refl _)) ?_
        simp only [Act.put, List.setIfInBounds_toArray, List.set_cons_zero, List.set_cons_succ]
        refine fsteps_val (fun W hC _ => opok_value (v := (.pointer (some ⟨b55, o56 + i * 1, none⟩))) (by rfl) (run_indexAddrN (.tmp 96) (.tmp 97) rfl Tryd.underlying36 slInt.sz (i := i) rfl rfl (by omega) W) rfl hC (G0.refl _)) ?_
        simp only [Act.put, List.setIfInBounds_toArray, List.set_cons_zero, List.set_cons_succ]
        refine fsteps_val (fun W hC _ => opok_value (v := (.int .i64 (nth (ints (mem S 1024)) i))) (by rfl) (run_load1 (.tmp 98) rfl Tryd.underlying3 rfl slInt.sz rfl (Reads.intAt (R34.same hC) i (by omega))) rfl hC (G0.refl _)) ?_
        simp only [Act.put, List.setIfInBounds_toArray, List.set_cons_zero, List.set_cons_succ]
        refine fsteps_val (fun W hC _ => opok_value (v := (.slice (some ⟨b53, o54, none⟩) (ints (mem S 1024)).length c12)) (by rfl) (by rfl) rfl hC (G0.refl _)) ?_
        simp only [Act.put, List.setIfInBounds_toArray, List.set_cons_zero, List.set_cons_succ]
        refine fsteps_val (fun W hC _ => opok_value (v := (.int .i64 (i : Int))) (by rfl) (by rfl) rfl hC (G0.refl _)) ?_
        simp only [Act.put, List.setIfInBounds_toArray, List.set_cons_zero, List.set_cons_succ]
        refine fsteps_val (fun W hC _ => opok_value (v := (.pointer (some ⟨b53, o54 + i * 1, none⟩))) (by rfl) (run_indexAddrN (.tmp 100) (.tmp 101) rfl Tryd.underlying36 slInt.sz (i := i) rfl rfl (by omega) W) rfl hC (G0.refl _)) ?_
        simp only [Act.put, List.setIfInBounds_toArray, List.set_cons_zero, List.set_cons_succ]
        refine fsteps_val (fun W hC _ => opok_value (v := (.int .i64 (nth (ints (mem S 1024)) i))) (by rfl) (run_load1 (.tmp 102) rfl Tryd.underlying3 rfl slInt.sz rfl (Reads.intAt (R17.same hC) i (by omega))) rfl hC (G0.refl _)) ?_
        simp only [Act.put, List.setIfInBounds_toArray, List.set_cons_zero, List.set_cons_succ]
        refine fsteps_val (fun W hC _ => opok_value (v := (.bool false)) (by rfl) (run_neq_int_t (.tmp 99) (.tmp 103) rfl rfl rfl rfl W) rfl hC (G0.refl _)) ?_
        simp only [Act.put, List.setIfInBounds_toArray, List.set_cons_zero, List.set_cons_succ]
        refine fsteps_nil fun w65 hC _ => ?_
        replace hC : Below w59.heap.size w59 w65 := hC
        replace B3 := B3.below hC
        replace R17 := R17.same hC
        replace R34 := R34.same hC
        replace bel := bl_step bel hC
        clear hC
        show Code.wp _ _ _ _ _
        refine wp_cond_false rfl ?_
        refine wp_skip ?_
        show Code.wp _ _ _ _ _
        refine wp_region_lit ?_
        refine st_value (v := (.int .i64 ((i : Int) + 1))) (by rfl) (run_add_in (.tmp 93) (.const (.int .i64 1)) rfl rfl rfl (by omega) w65) ?_
        simp only [Act.put, List.setIfInBounds_toArray, List.set_cons_zero, List.set_cons_succ]
        refine st_value (v := (.int .i64 ((i : Int) + 1))) (by rfl) (by rfl) ?_
        simp only [Act.put, List.setIfInBounds_toArray, List.set_cons_zero, List.set_cons_succ]
        refine wpList_nil ?_
        show ∃ m, m < _ ∧ _
        exact ⟨_, (by omega), (i + 1), j4, (.int .i64 (i : Int)), (.bool true), (.int .i64 (i : Int)), (.slice (some ⟨b55, o56, none⟩) (ints (mem S 1024)).length c29), (.int .i64 (i : Int)), (.pointer (some ⟨b55, o56 + i * 1, none⟩)), (.int .i64 (nth (ints (mem S 1024)) i)), (.slice (some ⟨b53, o54, none⟩) (ints (mem S 1024)).length c12), (.int .i64 (i : Int)), (.pointer (some ⟨b53, o54 + i * 1, none⟩)), (.int .i64 (nth (ints (mem S 1024)) i)), (.bool false), (.int .i64 ((i : Int) + 1)), rfl, rfl, B3, R17, R34, bel, (by omega)⟩
  · have hp66 := of_decide_eq_true hg19
    obtain ⟨b67, o68, rfl, _⟩ := R17.at_ (by simp only [List.length_map]; omega)
    refine wp_cond_true rfl ?_
    refine wp_skip ?_
    show Code.wp _ _ _ _ _
    refine wp_seq ?_
    refine wp_block ?_
    refine wp_seq ?_
    refine wp_region_lit ?_
    refine st_value (v := (.pointer (some ⟨b67, o68 + k * 1, none⟩))) (by rfl) (run_indexAddrN (.tmp 18) (.tmp 20) rfl Tryd.underlying36 slInt.sz (i := k) rfl rfl (by omega) w18) ?_
    simp only [Act.put, List.setIfInBounds_toArray, List.set_cons_zero, List.set_cons_succ]
    refine st_value (v := (.int .i64 (nth (ints (mem S 1024)) k))) (by rfl) (run_load1 (.tmp 22) rfl Tryd.underlying3 rfl slInt.sz rfl (Reads.intAt R17 k (by omega))) ?_
    simp only [Act.put, List.setIfInBounds_toArray, List.set_cons_zero, List.set_cons_succ]
    refine st_value (v := (.int .i64 (nth (ints (mem S 1024)) k))) (by rfl) (by rfl) ?_
    simp only [Act.put, List.setIfInBounds_toArray, List.set_cons_zero, List.set_cons_succ]
    refine wpList_nil ?_
    show Code.wp _ _ _ _ _
    refine wp_seq ?_
    cases hg69 : decide (f ≤ (nth (ints (mem S 1024)) k))
    · have hp70 := of_decide_eq_false hg69
      refine wp_region_lit ?_
      refine st_value (v := (.int .i64 (nth (ints (mem S 1024)) k))) (by rfl) (by rfl) ?_
      simp only [Act.put, List.setIfInBounds_toArray, List.set_cons_zero, List.set_cons_succ]
      refine st_value (v := (.int .i64 f)) (by rfl) (by rfl) ?_
      simp only [Act.put, List.setIfInBounds_toArray, List.set_cons_zero, List.set_cons_succ]
      refine st_value (v := (.bool false)) (by rfl) ((run_geq (.tmp 24) (.tmp 25) rfl rfl rfl w18).trans (by rw [hg69])) ?_
      simp only [Act.put, List.setIfInBounds_toArray, List.set_cons_zero, List.set_cons_succ]
      refine st_value (v := (.bool false)) (by rfl) (by rfl) ?_
      simp only [Act.put, List.setIfInBounds_toArray, List.set_cons_zero, List.set_cons_succ]
      refine st_not (by rfl) ?_
      simp only [Act.put, List.setIfInBounds_toArray, List.set_cons_zero, List.set_cons_succ]
      refine st_not (by rfl) ?_
      simp only [Act.put, List.setIfInBounds_toArray, List.set_cons_zero, List.set_cons_succ]
      refine st_value (v := (.bool false)) (by rfl) (by rfl) ?_
      simp only [Act.put, List.setIfInBounds_toArray, List.set_cons_zero, List.set_cons_succ]
      refine wpList_nil ?_
      show Code.wp _ _ _ _ _
      refine wp_cond_false rfl ?_
      refine wp_skip ?_
      show Code.wp _ _ _ _ _
      refine wp_region_lit ?_
      refine st_value (v := (.int .i64 ((k : Int) + 1))) (by rfl) (run_add_in (.tmp 20) (.const (.int .i64 1)) rfl rfl rfl (by omega) w18) ?_
      simp only [Act.put, List.setIfInBounds_toArray, List.set_cons_zero, List.set_cons_succ]
      refine st_value (v := (.int .i64 ((k : Int) + 1))) (by rfl) (by rfl) ?_
      simp only [Act.put, List.setIfInBounds_toArray, List.set_cons_zero, List.set_cons_succ]
      refine wpList_nil ?_
      show ∃ m, m < _ ∧ _
      exact ⟨_, (by omega), (k + 1), (.int .i64 (nth (ints (mem S 1024)) k)), (.bool true), (.pointer (some ⟨b67, o68 + k * 1, none⟩)), (.int .i64 (nth (ints (mem S 1024)) k)), (.int .i64 (nth (ints (mem S 1024)) k)), (.int .i64 f), (.bool false), (.bool false), undef, undef, (.bool false), j31, (.int .i64 ((k : Int) + 1)), rfl, (by rw [fge_skip (by omega) hp70]; rfl), B3, R17, bel, (by omega)⟩
    · have hp71 := of_decide_eq_true hg69
      refine wp_region_lit ?_
      refine st_value (v := (.int .i64 (nth (ints (mem S 1024)) k))) (by rfl) (by rfl) ?_
      simp only [Act.put, List.setIfInBounds_toArray, List.set_cons_zero, List.set_cons_succ]
      refine st_value (v := (.int .i64 f)) (by rfl) (by rfl) ?_
      simp only [Act.put, List.setIfInBounds_toArray, List.set_cons_zero, List.set_cons_succ]
      refine st_value (v := (.bool true)) (by rfl) ((run_geq (.tmp 24) (.tmp 25) rfl rfl rfl w18).trans (by rw [hg69])) ?_
      simp only [Act.put, List.setIfInBounds_toArray, List.set_cons_zero, List.set_cons_succ]
      refine st_value (v := (.bool true)) (by rfl) (by rfl) ?_
      simp only [Act.put, List.setIfInBounds_toArray, List.set_cons_zero, List.set_cons_succ]
      refine st_value (v := (.bool ((fge f ((ints (mem S 1024)).take k)).2))) (by rfl) (by rfl) ?_
      simp only [Act.put, List.setIfInBounds_toArray, List.set_cons_zero, List.set_cons_succ]
      refine st_value (v := (.bool (!((fge f ((ints (mem S 1024)).take k)).2)))) (by rfl) (run_not (.tmp 28) rfl (b := (fge f ((ints (mem S 1024)).take k)).2) rfl w18) ?_
      simp only [Act.put, List.setIfInBounds_toArray, List.set_cons_zero, List.set_cons_succ]
      refine st_value (v := (.bool (!((fge f ((ints (mem S 1024)).take k)).2)))) (by rfl) (by rfl) ?_
      simp only [Act.put, List.setIfInBounds_toArray, List.set_cons_zero, List.set_cons_succ]
      refine wpList_nil ?_
      show Code.wp _ _ _ _ _
      cases hg72 : (fge f ((ints (mem S 1024)).take k)).2
      · have hp73 := trivial
        refine wp_cond_true rfl ?_
        refine wp_seq ?_
        refine wp_region_lit ?_
        refine st_value (v := (.int .i64 (nth (ints (mem S 1024)) k))) (by rfl) (by rfl) ?_
        simp only [Act.put, List.setIfInBounds_toArray, List.set_cons_zero, List.set_cons_succ]
        refine st_value (v := (.int .i64 (nth (ints (mem S 1024)) k))) (by rfl) (by rfl) ?_
        simp only [Act.put, List.setIfInBounds_toArray, List.set_cons_zero, List.set_cons_succ]
        refine wpList_nil ?_
        show Code.wp _ _ _ _ _
        refine wp_region_lit ?_
        refine st_value (v := (.bool true)) (by rfl) (by rfl) ?_
        simp only [Act.put, List.setIfInBounds_toArray, List.set_cons_zero, List.set_cons_succ]
        refine wpList_nil ?_
        show Code.wp _ _ _ _ _
        refine wp_region_lit ?_
        refine st_value (v := (.int .i64 ((k : Int) + 1))) (by rfl) (run_add_in (.tmp 20) (.const (.int .i64 1)) rfl rfl rfl (by omega) w18) ?_
        simp only [Act.put, List.setIfInBounds_toArray, List.set_cons_zero, List.set_cons_succ]
        refine st_value (v := (.int .i64 ((k : Int) + 1))) (by rfl) (by rfl) ?_
        simp only [Act.put, List.setIfInBounds_toArray, List.set_cons_zero, List.set_cons_succ]
        refine wpList_nil ?_
        show ∃ m, m < _ ∧ _
        exact ⟨_, (by omega), (k + 1), (.int .i64 (nth (ints (mem S 1024)) k)), (.bool true), (.pointer (some ⟨b67, o68 + k * 1, none⟩)), (.int .i64 (nth (ints (mem S 1024)) k)), (.int .i64 (nth (ints (mem S 1024)) k)), (.int .i64 f), (.bool true), (.bool true), (.bool false), (.bool true), (.bool true), (.int .i64 (nth (ints (mem S 1024)) k)), (.int .i64 ((k : Int) + 1)), rfl, (by rw [fge_hit (by omega) hp71 hg72]; rfl), B3, R17, bel, (by omega)⟩
      · have hp74 := trivial
        refine wp_cond_false rfl ?_
        refine wp_skip ?_
        show Code.wp _ _ _ _ _
        refine wp_region_lit ?_
        refine st_value (v := (.int .i64 ((k : Int) + 1))) (by rfl) (run_add_in (.tmp 20) (.const (.int .i64 1)) rfl rfl rfl (by omega) w18) ?_
        simp only [Act.put, List.setIfInBounds_toArray, List.set_cons_zero, List.set_cons_succ]
        refine st_value (v := (.int .i64 ((k : Int) + 1))) (by rfl) (by rfl) ?_
        simp only [Act.put, List.setIfInBounds_toArray, List.set_cons_zero, List.set_cons_succ]
        refine wpList_nil ?_
        show ∃ m, m < _ ∧ _
        exact ⟨_, (by omega), (k + 1), (.int .i64 (nth (ints (mem S 1024)) k)), (.bool true), (.pointer (some ⟨b67, o68 + k * 1, none⟩)), (.int .i64 (nth (ints (mem S 1024)) k)), (.int .i64 (nth (ints (mem S 1024)) k)), (.int .i64 f), (.bool true), (.bool true), (.bool true), (.bool false), (.bool false), j31, (.int .i64 ((k : Int) + 1)), rfl, (by rw [fge_old (by omega) hg72, hg72]; rfl), B3, R17, bel, (by omega)⟩
end Go.Proofs.YthgamlklpfkkhaaDoor
