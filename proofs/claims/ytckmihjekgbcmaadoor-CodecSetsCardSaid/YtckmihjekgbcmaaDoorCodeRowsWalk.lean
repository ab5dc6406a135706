/- codec's rows. -/
import Derived.Test.YtckmihjekgbcmaaDoorCodeRows
namespace Go.Proofs.YtckmihjekgbcmaaDoor
open Go.RowKit Go.WideShapes Go.ChangeShapes
set_option linter.unusedSimpArgs false
set_option linter.unusedVariables false

theorem h_run_call_37_2 {o : Oper} {a : Act} (x0 : Operand) (x1 : Operand) {ts : Array TypeId} (ho : o.op = .call { callee := .value (.func 37), args := #[x0, x1], argTypes := ts }) {v0 : Value} (h0 : a.eval x0 = v0) {v1 : Value} (h1 : a.eval x1 = v1) (W : World) : (execOp a.eval o).run Tryd.prog W = .ok (.enter 37 #[v0, v1]) W := by
  unfold execOp
  simp only [ho]
  subst h0 h1
  go_simp
theorem h_run_call_38_2 {o : Oper} {a : Act} (x0 : Operand) (x1 : Operand) {ts : Array TypeId} (ho : o.op = .call { callee := .value (.func 38), args := #[x0, x1], argTypes := ts }) {v0 : Value} (h0 : a.eval x0 = v0) {v1 : Value} (h1 : a.eval x1 = v1) (W : World) : (execOp a.eval o).run Tryd.prog W = .ok (.enter 38 #[v0, v1]) W := by
  unfold execOp
  simp only [ho]
  subst h0 h1
  go_simp
theorem h_run_lit_67_2 {o : Oper} {a : Act} (x0 : Operand) (x1 : Operand) (ho : o.op = .buildSlice 67 2 #[(0, x0), (1, x1)]) {m0 : Int} (h0 : a.eval x0 = (.int .i64 m0)) {m1 : Int} (h1 : a.eval x1 = (.int .i64 m1)) (W : World) : (execOp a.eval o).run Tryd.prog W = .ok (.value (.slice (some ⟨W.heap.size, 0, none⟩) 2 2)) (W.alloc (.cells #[(.int .i64 m0), (.int .i64 m1)] 3)) := by
  unfold execOp
  simp only [ho, List.map_toArray, List.map_cons, List.map_nil, h0, h1]
  go_simp

attribute [local irreducible] Go.wpList Go.Code.wp
set_option maxRecDepth 100000 in
set_option maxHeartbeats 4000000 in
theorem rows_calls (S : Nat) (hS : Sm S) (w : World) (hT : Tab w) : Calls Tryd.prog 29 #[.agg (setA S)] w fun e w' => ∃ v, e = .returned v ∧ OwnR w' w.heap.size 3 (eInt .i64) v (rowsL S) ∧ Below w.heap.size w w' := by
  have bel : Below w.heap.size w w := Below.refl _ _
  go_enter Tryd.func29, Tryd.ntmps29
  refine wp_seq ?_
  refine wp_region_lit ?_
  refine st_new (by rfl) (run_box_set (.tmp 0) rfl (S := S) rfl _) ?_
  intro g1 w2 B3 hb4 lo5
  simp only [nf0, nf1, nf2, nf3, nf4]
  replace lo5 := low_le bel lo5
  replace bel := bl_step bel hb4
  clear hb4
  have O6 : OwnR w2 w.heap.size 3 (eInt .i64) (.slice none 0 0) [] := OwnR.nil _ _ _ _
  have n8 := Off.nil g1
  refine st_mv (.slice none 0 0) ?_
  simp only [nf0, nf1, nf2, nf3, nf4]
  refine wpList_nil ?_
  show Code.wp _ _ _ _ _
  refine wp_seq ?_
  refine wp_region_lit ?_
  refine st_mv (.int .i64 0) ?_
  simp only [nf0, nf1, nf2, nf3, nf4]
  refine wpList_nil ?_
  show Code.wp _ _ _ _ _
  refine wp_seq ?_
  refine wp_seq ?_
  refine wp_region_lit ?_
  refine st_value (v := (.agg (setA S))) (by rfl) (run_load_set (.tmp 1) rfl _ rfl S B3) ?_
  simp only [nf0, nf1, nf2, nf3, nf4]
  refine st_call (by rfl) (h_run_call_37_2 (.tmp 8) (.const (.int .i64 0)) rfl rfl rfl _) (next_all S 0 0 (by omega) hS w2 (hT.same bel)) ?_
  rintro _ w12 ⟨z9, b10, rfl, hx11, hf13⟩
  simp only [nf0, nf1, nf2, nf3, nf4]
  replace B3 := B3.below hf13
  replace O6 := O6.same hf13
  replace bel := bl_step bel hf13
  clear hf13
  refine st_mv (.tuple #[.int .i64 z9, .bool b10]) ?_
  simp only [nf0, nf1, nf2, nf3, nf4]
  refine st_mv (.int .i64 z9) ?_
  simp only [nf0, nf1, nf2, nf3, nf4]
  refine st_mv (.bool b10) ?_
  simp only [nf0, nf1, nf2, nf3, nf4]
  refine st_mv (.int .i64 z9) ?_
  simp only [nf0, nf1, nf2, nf3, nf4]
  refine st_mv (.bool b10) ?_
  simp only [nf0, nf1, nf2, nf3, nf4]
  refine wpList_nil ?_
  show Code.wp _ _ _ _ _
  refine wp_block ?_
  refine wp_loop_left (fun n_ a_ wr_ => (fun J14 => ∃ (m : Nat) (p : Nat) (z : Int) (b : Bool) (f : Nat) (xs : List Int) (v : Value), n_ = 1025 - m ∧ a_ = ⟨#[.agg (setA S), .pointer (some ⟨g1, 0, none⟩), v, .int .i64 (p : Int), .int .i64 z, .bool b, J14 6, J14 7, J14 8, J14 9, J14 10, J14 11, J14 12, J14 13, J14 14, J14 15, J14 16, J14 17, J14 18, J14 19, J14 20, J14 21, J14 22, J14 23, J14 24, J14 25, J14 26, J14 27, J14 28, J14 29, J14 30, J14 31, J14 32, J14 33, J14 34, J14 35, J14 36, J14 37, J14 38], []⟩ ∧ Blk wr_ g1 (setA S) 33 ∧ OwnR wr_ w.heap.size 3 (eInt .i64) v xs ∧ Off v g1 ∧ Below w.heap.size w wr_ ∧ (NX S m z b) ∧ (xs ++ rowsFrom S f m p = rowsL S) ∧ (1025 ≤ f + m) ∧ (p ≤ m + 1) ∧ (xs.length ≤ 2 * m)) (jk a_)) (1025 - 0) ⟨0, 0, z9, b10, 1025, [], (.slice none 0 0), rfl, rfl, B3, O6, n8, bel, hx11, rfl, (by omega), (by omega), (by simp)⟩ ?_
  clear B3
  clear O6
  clear n8
  clear bel
  intro n_ a_ w16 h_
  revert h_
  generalize jk a_ = J14
  rintro ⟨m, p, z, b, f, xs, v, hms, rfl, B3, O6, n15, bel, hnx, hx, hf, hp, hxl⟩
  refine wp_seq ?_
  refine wp_seq ?_
  refine wp_region_lit ?_
  refine st_mv (.bool b) ?_
  simp only [nf0, nf1, nf2, nf3, nf4]
  refine wpList_nil ?_
  show Code.wp _ _ _ _ _
  cases hg17 : b
  · have hp18 := trivial
    rw [rows_end (hnx.no hg17), List.append_nil] at hx
    refine wp_cond_false rfl ?_
    refine wp_exit ?_
    show Code.wp _ _ _ _ _
    refine wp_seq ?_
    refine wp_region_lit ?_
    refine st_mv v ?_
    simp only [nf0, nf1, nf2, nf3, nf4]
    refine st_mv v ?_
    simp only [nf0, nf1, nf2, nf3, nf4]
    refine wpList_nil ?_
    show Code.wp _ _ _ _ _
    refine wp_ret ?_
    first | show bodyPost _ _ _ _ _ _ | (simp only [Exit.then, Exit.inBlock]; show bodyPost _ _ _ _ _ _)
    exact bodyPost_ret (results_tmp rfl _ _ _) rfl ⟨_, rfl, by have h := O6; rw [hx] at h; exact h, bel⟩
  have hp19 := trivial
  obtain ⟨k, rfl, hk⟩ := hnx.yes hg17
  obtain ⟨hm1, hk1, hk2⟩ := next_lt hS hk
  have hrl := run_le hS 1025 k (by omega)
  have hra := run_at hS hk2
  obtain ⟨hf1, hf2⟩ := rows_go (p := p) hS hk hf
  refine wp_cond_true rfl ?_
  refine wp_skip ?_
  show Code.wp _ _ _ _ _
  refine wp_seq ?_
  refine wp_block ?_
  refine wp_seq ?_
  refine wp_region_lit ?_
  refine st_mv (.int .i64 (k : Int)) ?_
  simp only [nf0, nf1, nf2, nf3, nf4]
  refine st_mv (.int .i64 (k : Int)) ?_
  simp only [nf0, nf1, nf2, nf3, nf4]
  refine wpList_nil ?_
  show Code.wp _ _ _ _ _
  refine wp_seq ?_
  refine wp_block ?_
  refine wp_loop_left (fun n_ a_ wr_ => (fun J20 => ∃ (q : Nat), n_ = k + runFrom S 1025 k - q ∧ a_ = ⟨#[.agg (setA S), .pointer (some ⟨g1, 0, none⟩), v, .int .i64 (p : Int), .int .i64 (q : Int), .bool true, .int .i64 (k : Int), J20 7, J20 8, J20 9, J20 10, J20 11, J20 12, J20 13, J20 14, J20 15, J20 16, J20 17, J20 18, J20 19, J20 20, J20 21, J20 22, J20 23, J20 24, J20 25, J20 26, J20 27, J20 28, J20 29, J20 30, J20 31, J20 32, J20 33, J20 34, J20 35, J20 36, J20 37, J20 38], []⟩ ∧ Blk wr_ g1 (setA S) 33 ∧ OwnR wr_ w.heap.size 3 (eInt .i64) v xs ∧ Off v g1 ∧ Below w.heap.size w wr_ ∧ (q + 1 + runFrom S 1025 (q + 1) = k + runFrom S 1025 k) ∧ (k ≤ q)) (jk a_)) (k + runFrom S 1025 k - k) ⟨k, rfl, rfl, B3, O6, n15, bel, (by omega), (by omega)⟩ ?_
  clear B3
  clear O6
  clear n15
  clear bel
  intro n_ a_ w22 h_
  revert h_
  generalize jk a_ = J20
  rintro ⟨q, hms, rfl, B3, O6, n21, bel, hqe, hkq⟩
  refine wp_seq ?_
  refine wp_seq ?_
  refine wp_region_lit ?_
  refine st_value (v := (.agg (setA S))) (by rfl) (run_load_set (.tmp 1) rfl _ rfl S B3) ?_
  simp only [nf0, nf1, nf2, nf3, nf4]
  refine st_mv (.int .i64 (q : Int)) ?_
  simp only [nf0, nf1, nf2, nf3, nf4]
  refine st_value (v := (.int .i64 ((q : Int) + 1))) (by rfl) (run_add_in (.tmp 22) (.const (.int .i64 1)) rfl rfl rfl (by omega) w22) ?_
  simp only [nf0, nf1, nf2, nf3, nf4]
  refine st_call1 (v := (.bool (has S ((q : Int) + 1)))) (by rfl) (h_run_call_38_2 (.tmp 21) (.tmp 23) rfl rfl rfl _) (has_below S hS ((q : Int) + 1) w22) ?_
  intro w23 hb24
  simp only [nf0, nf1, nf2, nf3, nf4]
  replace B3 := B3.below hb24
  replace O6 := O6.same hb24
  replace bel := bl_step bel hb24
  clear hb24
  refine wpList_nil ?_
  show Code.wp _ _ _ _ _
  cases hg25 : has S ((q : Int) + 1)
  rotate_left
  · have hp45 := trivial
    have hrn := has_run hS hg25
    refine wp_cond_true rfl ?_
    refine wp_skip ?_
    show Code.wp _ _ _ _ _
    refine wp_block ?_
    refine wp_region_lit ?_
    refine st_mv (.int .i64 (q : Int)) ?_
    simp only [nf0, nf1, nf2, nf3, nf4]
    refine st_value (v := (.int .i64 ((q : Int) + 1))) (by rfl) (run_add_in (.tmp 25) (.const (.int .i64 1)) rfl rfl rfl (by omega) w23) ?_
    simp only [nf0, nf1, nf2, nf3, nf4]
    refine st_mv (.int .i64 ((q : Int) + 1)) ?_
    simp only [nf0, nf1, nf2, nf3, nf4]
    refine wpList_nil ?_
    show ∃ m, m < _ ∧ _
    exact ⟨_, (by omega), (q + 1), rfl, rfl, B3, O6, n21, bel, (by omega), (by omega)⟩
  have hp26 := trivial
  have hnr := has_norun hg25
  refine wp_cond_false rfl ?_
  refine wp_exit ?_
  show Code.wp _ _ _ _ _
  refine wp_seq ?_
  refine wp_region_lit ?_
  refine st_mv v ?_
  simp only [nf0, nf1, nf2, nf3, nf4]
  refine st_mv (.int .i64 (k : Int)) ?_
  simp only [nf0, nf1, nf2, nf3, nf4]
  refine st_mv (.int .i64 (p : Int)) ?_
  simp only [nf0, nf1, nf2, nf3, nf4]
  refine st_value (v := (.int .i64 ((k : Int) - (p : Int)))) (by rfl) (run_sub_in (.tmp 28) (.tmp 29) rfl rfl rfl (by omega) w23) ?_
  simp only [nf0, nf1, nf2, nf3, nf4]
  refine st_mv (.int .i64 (q : Int)) ?_
  simp only [nf0, nf1, nf2, nf3, nf4]
  refine st_mv (.int .i64 (k : Int)) ?_
  simp only [nf0, nf1, nf2, nf3, nf4]
  refine st_value (v := (.int .i64 ((q : Int) - (k : Int)))) (by rfl) (run_sub_in (.tmp 31) (.tmp 32) rfl rfl rfl (by omega) w23) ?_
  simp only [nf0, nf1, nf2, nf3, nf4]
  refine st_lit (by rfl) (h_run_lit_67_2 (.tmp 30) (.tmp 33) rfl rfl rfl _) ?_
  intro g27 w28 B29 hb30 lo31
  simp only [nf0, nf1, nf2, nf3, nf4]
  have n32 := B3.ne lo31
  have n33 := O6.off lo31
  replace lo31 := low_le bel lo31
  replace B3 := B3.below hb30
  replace O6 := O6.same hb30
  replace bel := bl_step bel hb30
  clear hb30
  refine st_append slInt rfl (.tmp 27) (.tmp 34) rfl rfl O6 ([((k : Int) - (p : Int)), ((q : Int) - (k : Int))] : List Int) rfl rfl B29 (by simp [Enc.all, eInt]) (by simp only [List.length_cons, List.length_nil]; omega) bel.size ?_
  intro v34 w35 O36 hg37 hat38
  simp only [nf0, nf1, nf2, nf3, nf4]
  have n39 := (n21 : Off _ _).app B3 hat38
  replace B3 := B3.keptR hg37 n21
  replace bel := bl_app bel O6 hg37
  clear O6 hg37 hat38
  refine st_mv v34 ?_
  simp only [nf0, nf1, nf2, nf3, nf4]
  refine wpList_nil ?_
  show Code.wp _ _ _ _ _
  refine wp_region_lit ?_
  refine st_mv (.int .i64 (q : Int)) ?_
  simp only [nf0, nf1, nf2, nf3, nf4]
  refine st_value (v := (.int .i64 ((q : Int) + 2))) (by rfl) (run_add_in (.tmp 36) (.const (.int .i64 2)) rfl rfl rfl (by omega) w35) ?_
  simp only [nf0, nf1, nf2, nf3, nf4]
  refine st_mv (.int .i64 ((q : Int) + 2)) ?_
  simp only [nf0, nf1, nf2, nf3, nf4]
  refine wpList_nil ?_
  show Code.wp _ _ _ _ _
  refine wp_region_lit ?_
  refine st_value (v := (.agg (setA S))) (by rfl) (run_load_set (.tmp 1) rfl _ rfl S B3) ?_
  simp only [nf0, nf1, nf2, nf3, nf4]
  refine st_mv (.int .i64 (q : Int)) ?_
  simp only [nf0, nf1, nf2, nf3, nf4]
  refine st_value (v := (.int .i64 ((q : Int) + 1))) (by rfl) (run_add_in (.tmp 15) (.const (.int .i64 1)) rfl rfl rfl (by omega) w35) ?_
  simp only [nf0, nf1, nf2, nf3, nf4]
  refine st_call (by rfl) (h_run_call_37_2 (.tmp 14) (.tmp 16) rfl rfl rfl _) (next_all S (q + 1) ((q : Int) + 1) (by omega) hS w35 (hT.same bel)) ?_
  rintro _ w43 ⟨z40, b41, rfl, hx42, hf44⟩
  simp only [nf0, nf1, nf2, nf3, nf4]
  replace B3 := B3.below hf44
  replace O36 := O36.same hf44
  replace bel := bl_step bel hf44
  clear hf44
  refine st_mv (.tuple #[.int .i64 z40, .bool b41]) ?_
  simp only [nf0, nf1, nf2, nf3, nf4]
  refine st_mv (.int .i64 z40) ?_
  simp only [nf0, nf1, nf2, nf3, nf4]
  refine st_mv (.bool b41) ?_
  simp only [nf0, nf1, nf2, nf3, nf4]
  refine st_mv (.int .i64 z40) ?_
  simp only [nf0, nf1, nf2, nf3, nf4]
  refine st_mv (.bool b41) ?_
  simp only [nf0, nf1, nf2, nf3, nf4]
  refine wpList_nil ?_
  show ∃ m, m < _ ∧ _
  exact ⟨_, (by omega), (q + 1), (q + 2), z40, b41, (f - 1), _, v34, rfl, rfl, B3, O36, n39, bel, hx42, (by rw [← hx, hf2, List.append_assoc, ← hqe, hnr, Nat.add_zero, show (((runFrom S 1025 k : Nat) : Int) - 1) = (q : Int) - (k : Int) by omega]; rfl), (by omega), (by omega), (by simp only [List.length_append, List.length_cons, List.length_nil]; omega)⟩
end Go.Proofs.YtckmihjekgbcmaaDoor
