/- How many are in a set. -/
import Derived.Test.YthgamlklpfkkhaaDoorCard
import Derived.Test.YthgamlklpfkkhaaDoorMore
namespace Go.Proofs.YthgamlklpfkkhaaDoor
open Go.RowKit Go.WideShapes Go.ChangeShapes
set_option linter.unusedSimpArgs false
set_option linter.unusedVariables false

theorem run_call_39_1 {o : Oper} {a : Act} (x0 : Operand) {ts : Array TypeId} (ho : o.op = .call { callee := .value (.func 39), args := #[x0], argTypes := ts }) {v0 : Value} (h0 : a.eval x0 = v0) (W : World) : (execOp a.eval o).run Tryd.prog W = .ok (.enter 39 #[v0]) W := by
  unfold execOp
  simp only [ho]
  subst h0
  go_simp
set_option maxRecDepth 100000 in
set_option maxHeartbeats 4000000 in
theorem len_calls (S : Nat) (w : World) : Calls Tryd.prog 28 #[.agg (setA S)] w fun e w' => e = .returned (.int .i64 ((card S : Nat) : Int)) ∧ Below w.heap.size w w' := by
  have bel : Below w.heap.size w w := Below.refl _ _
  go_enter Tryd.func28, Tryd.ntmps28
  refine wp_seq ?_
  refine wp_region_lit ?_
  refine st_new (by rfl) (run_box_set (.tmp 0) rfl (S := S) rfl _) ?_
  intro g1 w2 B3 hb4 lo5
  simp only [Act.put, List.setIfInBounds_toArray, List.set_cons_zero, List.set_cons_succ]
  replace lo5 := low_le bel lo5
  replace bel := bl_step bel hb4
  clear hb4
  refine st_value (v := (.int .i64 0)) (by rfl) (by rfl) ?_
  simp only [Act.put, List.setIfInBounds_toArray, List.set_cons_zero, List.set_cons_succ]
  refine wpList_nil ?_
  show Code.wp _ _ _ _ _
  refine wp_seq ?_
  refine wp_region_lit ?_
  refine st_value (v := (.int .i64 0)) (by rfl) (by rfl) ?_
  simp only [Act.put, List.setIfInBounds_toArray, List.set_cons_zero, List.set_cons_succ]
  refine wpList_nil ?_
  show Code.wp _ _ _ _ _
  refine wp_seq ?_
  refine wp_seq ?_
  refine wp_region_lit ?_
  refine st_value (v := (.agg (setA S))) (by rfl) (run_load_set (.tmp 1) rfl _ rfl S B3) ?_
  simp only [Act.put, List.setIfInBounds_toArray, List.set_cons_zero, List.set_cons_succ]
  refine st_value (v := (.int .i64 0)) (by rfl) (by rfl) ?_
  simp only [Act.put, List.setIfInBounds_toArray, List.set_cons_zero, List.set_cons_succ]
  refine wpList_nil ?_
  show Code.wp _ _ _ _ _
  refine wp_block ?_
  refine wp_loop_left (fun n_ a_ wr_ => ∃ (k : Nat) (j5 : Value) (j8 : Value) (j9 : Value) (j10 : Value) (j11 : Value) (j12 : Value) (j13 : Value) (j14 : Value), n_ = 16 - k ∧ a_ = ⟨#[.agg (setA S), .pointer (some ⟨g1, 0, none⟩), .int .i64 0, .int .i64 ((cards S k : Nat) : Int), undef, j5, .agg (setA S), .int .i64 (k : Int), j8, j9, j10, j11, j12, j13, j14, undef], []⟩ ∧ Blk wr_ g1 (setA S) 24 ∧ Below w.heap.size w wr_ ∧ k ≤ 16) (16 - 0) ⟨0, undef, undef, undef, undef, undef, undef, undef, undef, rfl, rfl, B3, bel, Nat.zero_le _⟩ ?_
  clear B3
  clear bel
  rintro n_ a_ w6 ⟨k, j5, j8, j9, j10, j11, j12, j13, j14, hn, rfl, B3, bel, hk⟩
  have hcl := cards_le S k
  have hpl := pop_le (wd S k)
  refine wp_seq ?_
  refine wp_region_lit ?_
  refine st_value (v := (.bool (decide ((k : Int) < 16)))) (by rfl) (run_lss (.tmp 7) (.const (.int .i64 16)) rfl rfl rfl w6) ?_
  simp only [Act.put, List.setIfInBounds_toArray, List.set_cons_zero, List.set_cons_succ]
  refine wpList_nil ?_
  show Code.wp _ _ _ _ _
  refine wp_seq ?_
  refine wp_cond_split (t := decide ((k : Int) < 16)) rfl (fun hc7 => ?_) (fun hc7 => ?_)
  · replace hc7 := of_decide_eq_true hc7
    refine wp_skip ?_
    show Code.wp _ _ _ _ _
    refine wp_seq ?_
    refine wp_block ?_
    refine wp_seq ?_
    refine wp_region_lit ?_
    refine st_value (v := (.int .u64 ((wd S k : Nat) : Int))) (by rfl) (run_index_set (.tmp 6) (.tmp 7) rfl (S := S) (i := k) rfl rfl (by omega) w6) ?_
    simp only [Act.put, List.setIfInBounds_toArray, List.set_cons_zero, List.set_cons_succ]
    refine st_value (v := (.int .u64 ((wd S k : Nat) : Int))) (by rfl) (by rfl) ?_
    simp only [Act.put, List.setIfInBounds_toArray, List.set_cons_zero, List.set_cons_succ]
    refine wpList_nil ?_
    show Code.wp _ _ _ _ _
    refine wp_region_lit ?_
    refine st_value (v := (.int .i64 ((cards S k : Nat) : Int))) (by rfl) (by rfl) ?_
    simp only [Act.put, List.setIfInBounds_toArray, List.set_cons_zero, List.set_cons_succ]
    refine st_value (v := (.int .u64 ((wd S k : Nat) : Int))) (by rfl) (by rfl) ?_
    simp only [Act.put, List.setIfInBounds_toArray, List.set_cons_zero, List.set_cons_succ]
    refine st_call1 (v := (.int .i64 ((pop (wd S k) : Nat) : Int))) (by rfl) (run_call_39_1 (.tmp 11) rfl rfl _) (ones_calls (wd S k) (wd_lt _ _) w6) ?_
    intro w8 hb9
    simp only [Act.put, List.setIfInBounds_toArray, List.set_cons_zero, List.set_cons_succ]
    replace B3 := B3.below hb9
    replace bel := bl_step bel hb9
    clear hb9
    refine st_value (v := (.int .i64 (((cards S k : Nat) : Int) + ((pop (wd S k) : Nat) : Int)))) (by rfl) (run_add_in (.tmp 10) (.tmp 12) rfl rfl rfl (by omega) w8) ?_
    simp only [Act.put, List.setIfInBounds_toArray, List.set_cons_zero, List.set_cons_succ]
    refine st_value (v := (.int .i64 (((cards S k : Nat) : Int) + ((pop (wd S k) : Nat) : Int)))) (by rfl) (by rfl) ?_
    simp only [Act.put, List.setIfInBounds_toArray, List.set_cons_zero, List.set_cons_succ]
    refine wpList_nil ?_
    show Code.wp _ _ _ _ _
    refine wp_region_lit ?_
    refine st_value (v := (.int .i64 ((k : Int) + 1))) (by rfl) (run_add_in (.tmp 7) (.const (.int .i64 1)) rfl rfl rfl (by omega) w8) ?_
    simp only [Act.put, List.setIfInBounds_toArray, List.set_cons_zero, List.set_cons_succ]
    refine st_value (v := (.int .i64 ((k : Int) + 1))) (by rfl) (by rfl) ?_
    simp only [Act.put, List.setIfInBounds_toArray, List.set_cons_zero, List.set_cons_succ]
    refine wpList_nil ?_
    show ∃ m, m < _ ∧ _
    exact ⟨_, (by omega), (k + 1), (.int .u64 ((wd S k : Nat) : Int)), (.bool (decide ((k : Int) < 16))), (.int .u64 ((wd S k : Nat) : Int)), (.int .i64 ((cards S k : Nat) : Int)), (.int .u64 ((wd S k : Nat) : Int)), (.int .i64 ((pop (wd S k) : Nat) : Int)), (.int .i64 (((cards S k : Nat) : Int) + ((pop (wd S k) : Nat) : Int))), (.int .i64 ((k : Int) + 1)), rfl, rfl, B3, bel, (by omega)⟩
  · replace hc7 := of_decide_eq_false hc7
    refine wp_exit ?_
    show Code.wp _ _ _ _ _
    refine wp_seq ?_
    refine wp_region_lit ?_
    refine st_value (v := (.int .i64 ((cards S k : Nat) : Int))) (by rfl) (by rfl) ?_
    simp only [Act.put, List.setIfInBounds_toArray, List.set_cons_zero, List.set_cons_succ]
    refine st_value (v := (.int .i64 ((cards S k : Nat) : Int))) (by rfl) (by rfl) ?_
    simp only [Act.put, List.setIfInBounds_toArray, List.set_cons_zero, List.set_cons_succ]
    refine wpList_nil ?_
    show Code.wp _ _ _ _ _
    refine wp_ret ?_
    show bodyPost _ _ _ _ _ _
    obtain rfl : k = 16 := by omega
    exact bodyPost_ret (results_tmp rfl _ _ _) rfl ⟨rfl, bel⟩
end Go.Proofs.YthgamlklpfkkhaaDoor
