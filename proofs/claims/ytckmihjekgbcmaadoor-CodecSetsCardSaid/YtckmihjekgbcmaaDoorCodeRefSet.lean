/- The document's bytes of a set. -/
import Derived.Test.YtckmihjekgbcmaaDoorCodeRefSets
namespace Go.Proofs.YtckmihjekgbcmaaDoor
open Go.RowKit Go.WideShapes Go.ChangeShapes
set_option linter.unusedSimpArgs false
set_option linter.unusedVariables false

theorem n_run_call_10_1 {o : Oper} {a : Act} (x0 : Operand) {ts : Array TypeId} (ho : o.op = .call { callee := .value (.func 10), args := #[x0], argTypes := ts }) {v0 : Value} (h0 : a.eval x0 = v0) (W : World) : (execOp a.eval o).run Tryd.prog W = .ok (.enter 10 #[v0]) W := by
  unfold execOp
  simp only [ho]
  subst h0
  go_simp
theorem n_run_call_33_2 {o : Oper} {a : Act} (x0 : Operand) (x1 : Operand) {ts : Array TypeId} (ho : o.op = .call { callee := .value (.func 33), args := #[x0, x1], argTypes := ts }) {v0 : Value} (h0 : a.eval x0 = v0) {v1 : Value} (h1 : a.eval x1 = v1) (W : World) : (execOp a.eval o).run Tryd.prog W = .ok (.enter 33 #[v0, v1]) W := by
  unfold execOp
  simp only [ho]
  subst h0 h1
  go_simp
theorem n_run_lit_67_2 {o : Oper} {a : Act} (x0 : Operand) (x1 : Operand) (ho : o.op = .buildSlice 67 2 #[(0, x0), (1, x1)]) {m0 : Int} (h0 : a.eval x0 = (.int .i64 m0)) {m1 : Int} (h1 : a.eval x1 = (.int .i64 m1)) (W : World) : (execOp a.eval o).run Tryd.prog W = .ok (.value (.slice (some ⟨W.heap.size, 0, none⟩) 2 2)) (W.alloc (.cells #[(.int .i64 m0), (.int .i64 m1)] 3)) := by
  unfold execOp
  simp only [ho, List.map_toArray, List.map_cons, List.map_nil, h0, h1]
  go_simp

attribute [local irreducible] Go.wpList Go.Code.wp
set_option maxRecDepth 100000 in
set_option maxHeartbeats 4000000 in
theorem refSet_calls (S : Nat) (hS : Sm S) (w : World) : Calls Tryd.prog 14 #[.agg (setA S)] w fun e w' => ∃ v, e = .returned v ∧ OwnR w' w.heap.size 5 eByte v (setB S) ∧ Below w.heap.size w w' := by
  have bel : Below w.heap.size w w := Below.refl _ _
  go_enter Tryd.func14, Tryd.ntmps14
  refine wp_seq ?_
  refine wp_region_lit ?_
  refine st_new (by rfl) (run_box_set (.tmp 0) rfl (S := S) rfl _) ?_
  intro g1 w2 B3 hb4 lo5
  simp only [nf0, nf1, nf2, nf3, nf4]
  replace lo5 := low_le bel lo5
  replace bel := bl_step bel hb4
  clear hb4
  refine st_mv (.slice none 0 0) ?_
  simp only [nf0, nf1, nf2, nf3, nf4]
  refine wpList_nil ?_
  show Code.wp _ _ _ _ _
  refine wp_seq ?_
  refine wp_region_lit ?_
  have O6 : OwnR w2 w.heap.size 3 (eInt .i64) (.slice none 0 0) [] := OwnR.nil _ _ _ _
  have n8 := Off.nil g1
  refine st_mv (.slice none 0 0) ?_
  simp only [nf0, nf1, nf2, nf3, nf4]
  refine wpList_nil ?_
  show Code.wp _ _ _ _ _
  refine wp_seq ?_
  refine wp_region_lit ?_
  refine st_mv (.int .i64 0) ?_
  simp only [nf0, nf1, nf2, nf3, nf4]
  refine wpList_nil ?_
  show Code.wp _ _ _ _ _
  refine wp_seq ?_
  refine wp_region_lit ?_
  refine st_mv (.int .i64 0) ?_
  simp only [nf0, nf1, nf2, nf3, nf4]
  refine wpList_nil ?_
  show Code.wp _ _ _ _ _
  refine wp_seq ?_
  refine wp_region_lit ?_
  refine st_mv (.int .i64 0) ?_
  simp only [nf0, nf1, nf2, nf3, nf4]
  refine wpList_nil ?_
  show Code.wp _ _ _ _ _
  refine wp_seq ?_
  refine wp_seq ?_
  refine wp_region_lit ?_
  refine st_mv (.int .i64 0) ?_
  simp only [nf0, nf1, nf2, nf3, nf4]
  refine wpList_nil ?_
  show Code.wp _ _ _ _ _
  refine wp_block ?_
  refine wp_loop_left (fun n_ a_ wr_ => (fun J9 => ∃ (q : Nat) (r : Nat) (u : Nat) (m : Nat) (f : Nat) (xs : List Int) (v : Value), n_ = 1025 - q ∧ a_ = ⟨#[J9 0, .pointer (some ⟨g1, 0, none⟩), J9 2, v, .int .i64 (u : Int), .int .i64 (r : Int), .int .i64 (m : Int), .int .i64 (q : Int), undef, J9 9, J9 10, J9 11, J9 12, J9 13, J9 14, J9 15, J9 16, J9 17, J9 18, J9 19, J9 20, J9 21, J9 22, J9 23, J9 24, J9 25, J9 26, J9 27, J9 28, J9 29, J9 30, J9 31, J9 32, J9 33, undef, undef, undef, J9 37, J9 38, J9 39, J9 40, J9 41, J9 42, J9 43, J9 44, J9 45], []⟩ ∧ Blk wr_ g1 (setA S) 33 ∧ OwnR wr_ w.heap.size 3 (eInt .i64) v xs ∧ Off v g1 ∧ Below w.heap.size w wr_ ∧ (q ≤ 1025) ∧ (r + u ≤ q) ∧ (xs.length = 2 * m) ∧ (m ≤ q) ∧ (1025 ≤ f + (q - r)) ∧ (∀ j, q - r ≤ j → j < q → S.testBit j = true) ∧ (q = 1025 → r = 0) ∧ (xs ++ rowsFrom S f (q - r) (q - r - u) = rowsL S)) (jk a_)) (1025 - 0) ⟨0, 0, 0, 0, 1025, [], (.slice none 0 0), rfl, rfl, B3, O6, n8, bel, (by omega), (by omega), (by simp), (by omega), (by omega), (fun j _ h => by omega), (fun h => by omega), rfl⟩ ?_
  clear B3
  clear O6
  clear n8
  clear bel
  intro n_ a_ w11 h_
  revert h_
  generalize jk a_ = J9
  rintro ⟨q, r, u, m, f, xs, v, hms, rfl, B3, O6, n10, bel, hn, hru, hm, hmn, hf, hin, hend, hx⟩
  refine wp_seq ?_
  refine wp_seq ?_
  refine wp_region_lit ?_
  refine st_mv (.int .i64 (q : Int)) ?_
  simp only [nf0, nf1, nf2, nf3, nf4]
  refine st_value (v := (.bool (decide ((q : Int) ≤ 1024)))) (by rfl) (run_leq (.tmp 11) (.const (.int .i64 1024)) rfl rfl rfl w11) ?_
  simp only [nf0, nf1, nf2, nf3, nf4]
  refine wpList_nil ?_
  show Code.wp _ _ _ _ _
  cases hg12 : decide ((q : Int) ≤ 1024)
  · have hp13 := of_decide_eq_false hg12
    refine wp_cond_false rfl ?_
    refine wp_exit ?_
    show Code.wp _ _ _ _ _
    refine wp_seq ?_
    obtain rfl : q = 1025 := by omega
    obtain rfl := hend rfl
    rw [rows_end (nextFrom_isnone fun j hj => hS j (by omega)), List.append_nil] at hx
    subst hx
    have hrl := rowsL_len hS
    obtain rfl : m = (rowsL S).length / 2 := by omega
    have hr64 : I64 (((rowsL S).length / 2 : Nat) : Int) := by unfold I64; omega
    have hvl := vbz_len hr64
    obtain ⟨A14, c15, hv16, h17, h18, h19, R20⟩ := O6.reads
    subst hv16
    rw [eInt_all] at R20
    refine wp_region_lit ?_
    refine st_mv (.int .i64 (((rowsL S).length / 2 : Nat) : Int)) ?_
    simp only [nf0, nf1, nf2, nf3, nf4]
    refine st_call (by rfl) (n_run_call_10_1 (.tmp 32) rfl rfl _) (refInt_calls hr64 w11) ?_
    rintro v21 w23 ⟨O22, hf24⟩
    simp only [nf0, nf1, nf2, nf3, nf4]
    have n25 := O22.offLow B3
    have n26 := O22.offLow2 O6
    have O22_ := fun k hk => (O22.lt k hk).1
    replace O22 := O22.lower bel.size
    replace B3 := B3.below hf24
    replace O6 := O6.same hf24
    replace R20 := R20.same hf24
    replace bel := bl_step bel hf24
    clear hf24
    refine st_mv v21 ?_
    simp only [nf0, nf1, nf2, nf3, nf4]
    refine wpList_nil ?_
    show Code.wp _ _ _ _ _
    refine wp_seq ?_
    refine wp_seq ?_
    refine wp_region_lit ?_
    refine st_mv (.slice A14 (rowsL S).length c15) ?_
    simp only [nf0, nf1, nf2, nf3, nf4]
    refine st_value (v := (.int .i64 ((rowsL S).length : Int))) (by rfl) (run_len (.tmp 34) rfl ⟨_, Tryd.underlying67⟩ rfl w23) ?_
    simp only [nf0, nf1, nf2, nf3, nf4]
    refine st_mv (.int .i64 0) ?_
    simp only [nf0, nf1, nf2, nf3, nf4]
    refine wpList_nil ?_
    show Code.wp _ _ _ _ _
    refine wp_block ?_
    refine wp_loop_left (fun n_ a_ wr_ => (fun J27 => ∃ (k : Nat) (v2 : Value), n_ = (rowsL S).length - k ∧ a_ = ⟨#[J27 0, .pointer (some ⟨g1, 0, none⟩), J27 2, .slice A14 (rowsL S).length c15, .int .i64 (u : Int), .int .i64 0, .int .i64 (((rowsL S).length / 2 : Nat) : Int), .int .i64 1025, v2, J27 9, J27 10, J27 11, J27 12, J27 13, J27 14, J27 15, J27 16, J27 17, J27 18, J27 19, J27 20, J27 21, J27 22, J27 23, J27 24, J27 25, J27 26, J27 27, J27 28, J27 29, J27 30, J27 31, J27 32, J27 33, .slice A14 (rowsL S).length c15, .int .i64 ((rowsL S).length : Int), .int .i64 (k : Int), J27 37, J27 38, J27 39, J27 40, J27 41, J27 42, J27 43, J27 44, J27 45], []⟩ ∧ Blk wr_ g1 (setA S) 33 ∧ OwnR wr_ w.heap.size 3 (eInt .i64) (.slice A14 (rowsL S).length c15) (rowsL S) ∧ Reads wr_ A14 ((rowsL S).map (Value.int .i64)) ∧ OwnR wr_ w.heap.size 5 eByte v2 (vb (zig (((rowsL S).length / 2 : Nat) : Int)) ++ vbs ((rowsL S).take k)) ∧ Off (.slice A14 (rowsL S).length c15) g1 ∧ Off2 (.slice A14 (rowsL S).length c15) v2 ∧ Off v2 g1 ∧ Below w.heap.size w wr_ ∧ (k ≤ (rowsL S).length)) (jk a_)) ((rowsL S).length - 0) ⟨0, v21, rfl, rfl, B3, O6, R20, (by rw [List.take_zero, vbs_nil, List.append_nil]; exact O22), n10, n26.symm, n25, bel, (Nat.zero_le _)⟩ ?_
    clear B3
    clear O6
    clear R20
    clear O22
    clear n10 n25 n26
    clear bel
    intro n_ a_ w31 h_
    revert h_
    generalize jk a_ = J27
    rintro ⟨k, v2, hms, rfl, B3, O6, R20, O22, n28, n29, n30, bel, hk⟩
    refine wp_seq ?_
    refine wp_region_lit ?_
    refine st_value (v := (.bool (decide ((k : Int) < ((rowsL S).length : Int))))) (by rfl) (run_lss (.tmp 36) (.tmp 35) rfl rfl rfl w31) ?_
    simp only [nf0, nf1, nf2, nf3, nf4]
    refine wpList_nil ?_
    show Code.wp _ _ _ _ _
    refine wp_seq ?_
    cases hg32 : decide ((k : Int) < ((rowsL S).length : Int))
    · have hp33 := of_decide_eq_false hg32
      refine wp_cond_false rfl ?_
      refine wp_exit ?_
      show Code.wp _ _ _ _ _
      refine wp_seq ?_
      refine wp_region_lit ?_
      refine st_mv v2 ?_
      simp only [nf0, nf1, nf2, nf3, nf4]
      refine st_mv v2 ?_
      simp only [nf0, nf1, nf2, nf3, nf4]
      refine wpList_nil ?_
      show Code.wp _ _ _ _ _
      refine wp_ret ?_
      first | show bodyPost _ _ _ _ _ _ | (simp only [Exit.then, Exit.inBlock]; show bodyPost _ _ _ _ _ _)
      obtain rfl : k = (rowsL S).length := by omega
      exact bodyPost_ret (results_tmp rfl _ _ _) rfl ⟨_, rfl, by have h := O22; rw [List.take_length] at h; exact h, bel⟩
    have hp34 := of_decide_eq_true hg32
    refine wp_cond_true rfl ?_
    refine wp_skip ?_
    show Code.wp _ _ _ _ _
    refine wp_seq ?_
    refine wp_block ?_
    refine wp_seq ?_
    obtain ⟨b35, o36, rfl, _⟩ := R20.at_ (by rw [List.length_map]; omega)
    refine wp_region_lit ?_
    refine st_value (v := (.pointer (some ⟨b35, o36 + k * 1, none⟩))) (by rfl) (run_indexAddrN (.tmp 34) (.tmp 36) rfl Tryd.underlying67 slInt.sz (i := k) rfl rfl (by omega) w31) ?_
    simp only [nf0, nf1, nf2, nf3, nf4]
    refine st_value (v := (.int .i64 (nth (rowsL S) k))) (by rfl) (run_load1 (.tmp 38) rfl Tryd.underlying3 rfl slInt.sz rfl (Reads.intAt R20 k (by omega))) ?_
    simp only [nf0, nf1, nf2, nf3, nf4]
    refine st_mv (.int .i64 (nth (rowsL S) k)) ?_
    simp only [nf0, nf1, nf2, nf3, nf4]
    refine wpList_nil ?_
    show Code.wp _ _ _ _ _
    refine wp_region_lit ?_
    refine st_mv v2 ?_
    simp only [nf0, nf1, nf2, nf3, nf4]
    refine st_mv (.int .i64 (nth (rowsL S) k)) ?_
    simp only [nf0, nf1, nf2, nf3, nf4]
    refine st_call (by rfl) (n_run_call_10_1 (.tmp 41) rfl rfl _) (refInt_calls (I64_nth (rowsL_I64 hS) (k := k) (by omega)) w31) ?_
    rintro v37 w39 ⟨O38, hf40⟩
    simp only [nf0, nf1, nf2, nf3, nf4]
    have n41 := O38.offLow B3
    have n42 := O38.offLow2 O6
    have n43 := O38.offLow2 O22
    have O38_ := fun k hk => (O38.lt k hk).1
    replace O38 := O38.lower bel.size
    replace B3 := B3.below hf40
    replace O6 := O6.same hf40
    replace R20 := R20.same hf40
    replace O22 := O22.same hf40
    replace bel := bl_step bel hf40
    clear hf40
    obtain ⟨A44, c45, hv46, h47, h48, h49, R50⟩ := O38.reads
    subst hv46
    clear O38
    refine st_appends slByte rfl (.tmp 40) (.tmp 42) rfl rfl O22 (vb (zig (nth (rowsL S) k))) rfl rfl R50 (by have h1 := vbs_take_len (rowsL_I64 hS) k; have h2 := vbz_len (I64_nth (rowsL_I64 hS) (k := k) (by omega)); rw [List.length_append]; omega) bel.size ?_
    intro v51 w52 O53 hg54 hat55
    simp only [nf0, nf1, nf2, nf3, nf4]
    have n56 := (n30 : Off _ _).app B3 hat55
    replace B3 := B3.keptR hg54 n30
    have n57 := Off2.app n29.symm O6 hat55
    replace O6 := O6.keptR hg54 n29
    replace bel := bl_app bel O22 hg54
    clear O22 hg54 hat55
    replace R20 := OwnR.rdN O6
    clear R50
    refine st_mv v51 ?_
    simp only [nf0, nf1, nf2, nf3, nf4]
    refine wpList_nil ?_
    show Code.wp _ _ _ _ _
    refine wp_region_lit ?_
    refine st_value (v := (.int .i64 ((k : Int) + 1))) (by rfl) (run_add_in (.tmp 36) (.const (.int .i64 1)) rfl rfl rfl (by omega) w52) ?_
    simp only [nf0, nf1, nf2, nf3, nf4]
    refine st_mv (.int .i64 ((k : Int) + 1)) ?_
    simp only [nf0, nf1, nf2, nf3, nf4]
    refine wpList_nil ?_
    show ∃ m, m < _ ∧ _
    exact ⟨_, (by omega), (k + 1), v51, rfl, rfl, B3, O6, R20, (by rw [vbs_take (by omega), ← List.append_assoc]; exact O53), n28, n57.symm, n56, bel, (by omega)⟩
  have hp58 := of_decide_eq_true hg12
  refine wp_cond_true rfl ?_
  refine wp_skip ?_
  show Code.wp _ _ _ _ _
  refine wp_seq ?_
  refine wp_block ?_
  refine wp_seq ?_
  refine wp_seq ?_
  refine wp_region_lit ?_
  refine st_value (v := (.agg (setA S))) (by rfl) (run_load_set (.tmp 1) rfl _ rfl S B3) ?_
  simp only [nf0, nf1, nf2, nf3, nf4]
  refine st_mv (.int .i64 (q : Int)) ?_
  simp only [nf0, nf1, nf2, nf3, nf4]
  refine st_call1 (v := (.bool (has S (q : Int)))) (by rfl) (n_run_call_33_2 (.tmp 15) (.tmp 16) rfl rfl rfl _) (refHas_below S hS (q : Int) w11) ?_
  intro w59 hb60
  simp only [nf0, nf1, nf2, nf3, nf4]
  replace B3 := B3.below hb60
  replace O6 := O6.same hb60
  replace bel := bl_step bel hb60
  clear hb60
  refine wpList_nil ?_
  show Code.wp _ _ _ _ _
  cases hg61 : has S (q : Int)
  rotate_left
  · have hp79 := trivial
    have hb := hg61
    rw [has_nat] at hb
    refine wp_cond_true rfl ?_
    refine wp_seq ?_
    refine wp_region_lit ?_
    refine st_mv (.int .i64 (r : Int)) ?_
    simp only [nf0, nf1, nf2, nf3, nf4]
    refine st_value (v := (.int .i64 ((r : Int) + 1))) (by rfl) (run_add_in (.tmp 18) (.const (.int .i64 1)) rfl rfl rfl (by omega) w59) ?_
    simp only [nf0, nf1, nf2, nf3, nf4]
    refine st_mv (.int .i64 ((r : Int) + 1)) ?_
    simp only [nf0, nf1, nf2, nf3, nf4]
    refine wpList_nil ?_
    show Code.wp _ _ _ _ _
    refine wp_exit ?_
    show Code.wp _ _ _ _ _
    refine wp_region_lit ?_
    refine st_mv (.int .i64 (q : Int)) ?_
    simp only [nf0, nf1, nf2, nf3, nf4]
    refine st_value (v := (.int .i64 ((q : Int) + 1))) (by rfl) (run_add_in (.tmp 13) (.const (.int .i64 1)) rfl rfl rfl (by omega) w59) ?_
    simp only [nf0, nf1, nf2, nf3, nf4]
    refine st_mv (.int .i64 ((q : Int) + 1)) ?_
    simp only [nf0, nf1, nf2, nf3, nf4]
    refine wpList_nil ?_
    show ∃ m, m < _ ∧ _
    exact ⟨_, (by omega), (q + 1), (r + 1), u, m, f, _, v, rfl, rfl, B3, O6, n10, bel, (by omega), (by omega), (by first | omega | (simp only [List.length_append, List.length_cons, List.length_nil]; omega)), (by omega), (by omega), (rs_in hin hb), (fun h => by have := hS q (by omega); rw [this] at hb; cases hb), (by rw [show q + 1 - (r + 1) = q - r by omega]; exact hx)⟩
  have hp62 := trivial
  have hb := hg61
  rw [has_nat] at hb
  refine wp_cond_false rfl ?_
  refine wp_skip ?_
  show Code.wp _ _ _ _ _
  refine wp_seq ?_
  refine wp_seq ?_
  refine wp_region_lit ?_
  refine st_mv (.int .i64 (r : Int)) ?_
  simp only [nf0, nf1, nf2, nf3, nf4]
  refine st_value (v := (.bool (decide ((r : Int) = 0)))) (by rfl) (run_eql_int (.tmp 20) (.const (.int .i64 0)) rfl rfl rfl w59) ?_
  simp only [nf0, nf1, nf2, nf3, nf4]
  refine wpList_nil ?_
  show Code.wp _ _ _ _ _
  cases hg63 : decide ((r : Int) = 0)
  rotate_left
  · have hp78 := of_decide_eq_true hg63
    obtain rfl : r = 0 := by omega
    refine wp_cond_true rfl ?_
    refine wp_seq ?_
    refine wp_region_lit ?_
    refine st_mv (.int .i64 (u : Int)) ?_
    simp only [nf0, nf1, nf2, nf3, nf4]
    refine st_value (v := (.int .i64 ((u : Int) + 1))) (by rfl) (run_add_in (.tmp 22) (.const (.int .i64 1)) rfl rfl rfl (by omega) w59) ?_
    simp only [nf0, nf1, nf2, nf3, nf4]
    refine st_mv (.int .i64 ((u : Int) + 1)) ?_
    simp only [nf0, nf1, nf2, nf3, nf4]
    refine wpList_nil ?_
    show Code.wp _ _ _ _ _
    refine wp_exit ?_
    show Code.wp _ _ _ _ _
    refine wp_region_lit ?_
    refine st_mv (.int .i64 (q : Int)) ?_
    simp only [nf0, nf1, nf2, nf3, nf4]
    refine st_value (v := (.int .i64 ((q : Int) + 1))) (by rfl) (run_add_in (.tmp 13) (.const (.int .i64 1)) rfl rfl rfl (by omega) w59) ?_
    simp only [nf0, nf1, nf2, nf3, nf4]
    refine st_mv (.int .i64 ((q : Int) + 1)) ?_
    simp only [nf0, nf1, nf2, nf3, nf4]
    refine wpList_nil ?_
    show ∃ m, m < _ ∧ _
    exact ⟨_, (by omega), (q + 1), 0, (u + 1), m, f, _, v, rfl, rfl, B3, O6, n10, bel, (by omega), (by omega), (by first | omega | (simp only [List.length_append, List.length_cons, List.length_nil]; omega)), (by omega), (by omega), (fun j _ _ => by omega), (fun _ => rfl), (by exact rs_skip hS hb hx)⟩
  have hp64 := of_decide_eq_false hg63
  refine wp_cond_false rfl ?_
  refine wp_skip ?_
  show Code.wp _ _ _ _ _
  refine wp_seq ?_
  refine wp_region_lit ?_
  refine st_mv v ?_
  simp only [nf0, nf1, nf2, nf3, nf4]
  refine st_mv (.int .i64 (u : Int)) ?_
  simp only [nf0, nf1, nf2, nf3, nf4]
  refine st_mv (.int .i64 (r : Int)) ?_
  simp only [nf0, nf1, nf2, nf3, nf4]
  refine st_value (v := (.int .i64 ((r : Int) - 1))) (by rfl) (run_sub_in (.tmp 26) (.const (.int .i64 1)) rfl rfl rfl (by omega) w59) ?_
  simp only [nf0, nf1, nf2, nf3, nf4]
  refine st_lit (by rfl) (n_run_lit_67_2 (.tmp 25) (.tmp 27) rfl rfl rfl _) ?_
  intro g65 w66 B67 hb68 lo69
  simp only [nf0, nf1, nf2, nf3, nf4]
  have n70 := B3.ne lo69
  have n71 := O6.off lo69
  replace lo69 := low_le bel lo69
  replace B3 := B3.below hb68
  replace O6 := O6.same hb68
  replace bel := bl_step bel hb68
  clear hb68
  refine st_append slInt rfl (.tmp 24) (.tmp 28) rfl rfl O6 ([(u : Int), ((r : Int) - 1)] : List Int) rfl rfl B67 (by simp [Enc.all, eInt]) (by simp only [List.length_cons, List.length_nil]; omega) bel.size ?_
  intro v72 w73 O74 hg75 hat76
  simp only [nf0, nf1, nf2, nf3, nf4]
  have n77 := (n10 : Off _ _).app B3 hat76
  replace B3 := B3.keptR hg75 n10
  replace bel := bl_app bel O6 hg75
  clear O6 hg75 hat76
  refine st_mv v72 ?_
  simp only [nf0, nf1, nf2, nf3, nf4]
  refine wpList_nil ?_
  show Code.wp _ _ _ _ _
  refine wp_seq ?_
  refine wp_region_lit ?_
  refine st_mv (.int .i64 (m : Int)) ?_
  simp only [nf0, nf1, nf2, nf3, nf4]
  refine st_value (v := (.int .i64 ((m : Int) + 1))) (by rfl) (run_add_in (.tmp 30) (.const (.int .i64 1)) rfl rfl rfl (by omega) w73) ?_
  simp only [nf0, nf1, nf2, nf3, nf4]
  refine st_mv (.int .i64 ((m : Int) + 1)) ?_
  simp only [nf0, nf1, nf2, nf3, nf4]
  refine wpList_nil ?_
  show Code.wp _ _ _ _ _
  refine wp_seq ?_
  refine wp_region_lit ?_
  refine st_mv (.int .i64 0) ?_
  simp only [nf0, nf1, nf2, nf3, nf4]
  refine wpList_nil ?_
  show Code.wp _ _ _ _ _
  refine wp_region_lit ?_
  refine st_mv (.int .i64 0) ?_
  simp only [nf0, nf1, nf2, nf3, nf4]
  refine wpList_nil ?_
  show Code.wp _ _ _ _ _
  refine wp_region_lit ?_
  refine st_mv (.int .i64 (q : Int)) ?_
  simp only [nf0, nf1, nf2, nf3, nf4]
  refine st_value (v := (.int .i64 ((q : Int) + 1))) (by rfl) (run_add_in (.tmp 13) (.const (.int .i64 1)) rfl rfl rfl (by omega) w73) ?_
  simp only [nf0, nf1, nf2, nf3, nf4]
  refine st_mv (.int .i64 ((q : Int) + 1)) ?_
  simp only [nf0, nf1, nf2, nf3, nf4]
  refine wpList_nil ?_
  show ∃ m, m < _ ∧ _
  exact ⟨_, (by omega), (q + 1), 0, 0, (m + 1), (f - 1), _, v72, rfl, rfl, B3, O74, n77, bel, (by omega), (by omega), (by first | omega | (simp only [List.length_append, List.length_cons, List.length_nil]; omega)), (by omega), (by omega), (fun j _ _ => by omega), (fun _ => rfl), (rs_row hS hb hx hf hin (by omega) (by omega))⟩
end Go.Proofs.YtckmihjekgbcmaaDoor
