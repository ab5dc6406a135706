/- codec's put and PutSet. -/
import Derived.Test.YtckmihjekgbcmaaDoorCodePuts
namespace Go.Proofs.YtckmihjekgbcmaaDoor
open Go.RowKit Go.WideShapes Go.ChangeShapes
set_option linter.unusedSimpArgs false
set_option linter.unusedVariables false

theorem i_run_call_7_2 {o : Oper} {a : Act} (x0 : Operand) (x1 : Operand) {ts : Array TypeId} (ho : o.op = .call { callee := .value (.func 7), args := #[x0, x1], argTypes := ts }) {v0 : Value} (h0 : a.eval x0 = v0) {v1 : Value} (h1 : a.eval x1 = v1) (W : World) : (execOp a.eval o).run Tryd.prog W = .ok (.enter 7 #[v0, v1]) W := by
  unfold execOp
  simp only [ho]
  subst h0 h1
  go_simp
theorem j_run_call_7_2 {o : Oper} {a : Act} (x0 : Operand) (x1 : Operand) {ts : Array TypeId} (ho : o.op = .call { callee := .value (.func 7), args := #[x0, x1], argTypes := ts }) {v0 : Value} (h0 : a.eval x0 = v0) {v1 : Value} (h1 : a.eval x1 = v1) (W : World) : (execOp a.eval o).run Tryd.prog W = .ok (.enter 7 #[v0, v1]) W := by
  unfold execOp
  simp only [ho]
  subst h0 h1
  go_simp
theorem j_run_call_29_1 {o : Oper} {a : Act} (x0 : Operand) {ts : Array TypeId} (ho : o.op = .call { callee := .value (.func 29), args := #[x0], argTypes := ts }) {v0 : Value} (h0 : a.eval x0 = v0) (W : World) : (execOp a.eval o).run Tryd.prog W = .ok (.enter 29 #[v0]) W := by
  unfold execOp
  simp only [ho]
  subst h0
  go_simp
theorem j_run_call_30_2 {o : Oper} {a : Act} (x0 : Operand) (x1 : Operand) {ts : Array TypeId} (ho : o.op = .call { callee := .value (.func 30), args := #[x0, x1], argTypes := ts }) {v0 : Value} (h0 : a.eval x0 = v0) {v1 : Value} (h1 : a.eval x1 = v1) (W : World) : (execOp a.eval o).run Tryd.prog W = .ok (.enter 30 #[v0, v1]) W := by
  unfold execOp
  simp only [ho]
  subst h0 h1
  go_simp
/-- A set's bytes. -/
def setB (S : Nat) : List UInt8 := vb (zig (((rowsL S).length / 2 : Nat) : Int)) ++ vbs (rowsL S)

attribute [local irreducible] Go.wpList Go.Code.wp
set_option maxRecDepth 100000 in
set_option maxHeartbeats 4000000 in
theorem putAll_calls {base : Nat} {v0 : Value} {l : List UInt8} {w : World} (hO0 : OwnR w base 5 eByte v0 l) (hbase : base ≤ w.heap.size) {B : Option Addr} {ns : List Int} {cap : Nat} (hr : Reads w B (ns.map (Value.int .i64))) (hn : ∀ n ∈ ns, I64 n) (hl : l.length + 10 * ns.length ≤ 10000000) : Calls Tryd.prog 30 #[v0, .slice B ns.length cap] w fun e w' => ∃ v, e = .returned v ∧ (OwnR w' base 5 eByte v (l ++ vbs ns) ∧ Below w.heap.size w w') := by
  have bel : Below w.heap.size w w := Below.refl _ _
  go_enter Tryd.func30, Tryd.ntmps30
  refine wp_seq ?_
  refine wp_region_lit ?_
  refine st_mv (.slice none 0 0) ?_
  simp only [nf0, nf1, nf2, nf3, nf4]
  refine wpList_nil ?_
  show Code.wp _ _ _ _ _
  refine wp_seq ?_
  refine wp_seq ?_
  refine wp_region_lit ?_
  refine st_mv (.slice B ns.length cap) ?_
  simp only [nf0, nf1, nf2, nf3, nf4]
  refine st_value (v := (.int .i64 (ns.length : Int))) (by rfl) (run_len (.tmp 7) rfl ⟨_, Tryd.underlying67⟩ rfl w) ?_
  simp only [nf0, nf1, nf2, nf3, nf4]
  refine st_mv (.int .i64 0) ?_
  simp only [nf0, nf1, nf2, nf3, nf4]
  refine wpList_nil ?_
  show Code.wp _ _ _ _ _
  refine wp_block ?_
  refine wp_loop_left (fun n_ a_ wr_ => (fun J1 => ∃ (k : Nat) (u : Value), n_ = ns.length - k ∧ a_ = ⟨#[u, .slice B ns.length cap, J1 2, J1 3, .slice none 0 0, J1 5, J1 6, .slice B ns.length cap, .int .i64 (ns.length : Int), .int .i64 (k : Int), J1 10, J1 11, J1 12, J1 13, J1 14, J1 15, J1 16, J1 17], []⟩ ∧ Below w.heap.size w wr_ ∧ (k ≤ ns.length) ∧ (OwnR wr_ base 5 eByte u (l ++ vbs (ns.take k)))) (jk a_)) (ns.length - 0) ⟨0, v0, rfl, rfl, bel, (Nat.zero_le _), (by rw [List.take_zero, vbs_nil, List.append_nil]; exact hO0)⟩ ?_
  clear bel
  intro n_ a_ w2 h_
  revert h_
  generalize jk a_ = J1
  rintro ⟨k, u, hms, rfl, bel, hk, hO⟩
  refine wp_seq ?_
  refine wp_region_lit ?_
  refine st_value (v := (.bool (decide ((k : Int) < (ns.length : Int))))) (by rfl) (run_lss (.tmp 9) (.tmp 8) rfl rfl rfl w2) ?_
  simp only [nf0, nf1, nf2, nf3, nf4]
  refine wpList_nil ?_
  show Code.wp _ _ _ _ _
  refine wp_seq ?_
  cases hg3 : decide ((k : Int) < (ns.length : Int))
  · have hp4 := of_decide_eq_false hg3
    refine wp_cond_false rfl ?_
    refine wp_exit ?_
    show Code.wp _ _ _ _ _
    refine wp_seq ?_
    refine wp_region_lit ?_
    refine st_mv u ?_
    simp only [nf0, nf1, nf2, nf3, nf4]
    refine st_mv u ?_
    simp only [nf0, nf1, nf2, nf3, nf4]
    refine wpList_nil ?_
    show Code.wp _ _ _ _ _
    refine wp_ret ?_
    first | show bodyPost _ _ _ _ _ _ | (simp only [Exit.then, Exit.inBlock]; show bodyPost _ _ _ _ _ _)
    obtain rfl : k = ns.length := by omega
    exact bodyPost_ret (results_tmp rfl _ _ _) rfl ⟨_, rfl, by rw [List.take_length] at hO; exact hO, bel⟩
  have hp5 := of_decide_eq_true hg3
  refine wp_cond_true rfl ?_
  refine wp_skip ?_
  show Code.wp _ _ _ _ _
  refine wp_seq ?_
  refine wp_block ?_
  refine wp_seq ?_
  obtain ⟨b6, o7, rfl, _⟩ := (hr.same bel).at_ (by rw [List.length_map]; omega)
  refine wp_region_lit ?_
  refine st_value (v := (.pointer (some ⟨b6, o7 + k * 1, none⟩))) (by rfl) (run_indexAddrN (.tmp 7) (.tmp 9) rfl Tryd.underlying67 slInt.sz (i := k) rfl rfl (by omega) w2) ?_
  simp only [nf0, nf1, nf2, nf3, nf4]
  refine st_value (v := (.int .i64 (nth ns k))) (by rfl) (run_load1 (.tmp 11) rfl Tryd.underlying3 rfl slInt.sz rfl (Reads.intAt (hr.same bel) k (by omega))) ?_
  simp only [nf0, nf1, nf2, nf3, nf4]
  refine st_mv (.int .i64 (nth ns k)) ?_
  simp only [nf0, nf1, nf2, nf3, nf4]
  refine wpList_nil ?_
  show Code.wp _ _ _ _ _
  refine wp_region_lit ?_
  refine st_mv u ?_
  simp only [nf0, nf1, nf2, nf3, nf4]
  refine st_mv (.int .i64 (nth ns k)) ?_
  simp only [nf0, nf1, nf2, nf3, nf4]
  refine st_call (by rfl) (i_run_call_7_2 (.tmp 13) (.tmp 14) rfl rfl rfl _) (putInt_own hO (Nat.le_trans hbase bel.size) (by have := vbs_take_len hn k; rw [List.length_append]; omega) (I64_nth hn (k := k) (by omega))) ?_
  rintro v' w8 ⟨hO', hf9⟩
  simp only [nf0, nf1, nf2, nf3, nf4]
  replace bel := bl_step bel hf9
  clear hf9
  refine st_mv v' ?_
  simp only [nf0, nf1, nf2, nf3, nf4]
  refine wpList_nil ?_
  show Code.wp _ _ _ _ _
  refine wp_region_lit ?_
  refine st_value (v := (.int .i64 ((k : Int) + 1))) (by rfl) (run_add_in (.tmp 9) (.const (.int .i64 1)) rfl rfl rfl (by omega) w8) ?_
  simp only [nf0, nf1, nf2, nf3, nf4]
  refine st_mv (.int .i64 ((k : Int) + 1)) ?_
  simp only [nf0, nf1, nf2, nf3, nf4]
  refine wpList_nil ?_
  show ∃ m, m < _ ∧ _
  exact ⟨_, (by omega), (k + 1), v', rfl, rfl, bel, (by omega), (by rw [vbs_take (by omega), ← List.append_assoc]; exact hO')⟩
set_option maxRecDepth 100000 in
set_option maxHeartbeats 4000000 in
theorem putSet_calls (A : Option Addr) (l : List UInt8) (cap S : Nat) (hS : Sm S) (w : World) (hr : Reads w A (eByte.all l)) (hl : l.length ≤ 1000000) (hA : A = none → cap = 0) (hT : Tab w) : Calls Tryd.prog 12 #[.slice A l.length cap, .agg (setA S)] w fun e w' => ∃ v, e = .returned v ∧ OwnR w' w.heap.size 5 eByte v (l ++ setB S) ∧ Below w.heap.size w w' := by
  have bel : Below w.heap.size w w := Below.refl _ _
  go_enter Tryd.func12, Tryd.ntmps12
  refine wp_seq ?_
  refine wp_region_lit ?_
  refine st_new (by rfl) (run_box_set (.tmp 1) rfl (S := S) rfl _) ?_
  intro g1 w2 B3 hb4 lo5
  simp only [nf0, nf1, nf2, nf3, nf4]
  replace lo5 := low_le bel lo5
  replace bel := bl_step bel hb4
  clear hb4
  refine st_mv (.slice none 0 0) ?_
  simp only [nf0, nf1, nf2, nf3, nf4]
  refine wpList_nil ?_
  show Code.wp _ _ _ _ _
  refine wp_seq ?_
  refine wp_region_lit ?_
  refine st_value (v := (.agg (setA S))) (by rfl) (run_load_set (.tmp 3) rfl _ rfl S B3) ?_
  simp only [nf0, nf1, nf2, nf3, nf4]
  refine st_call (by rfl) (j_run_call_29_1 (.tmp 6) rfl rfl _) (rows_calls S hS w2 (hT.same bel)) ?_
  rintro v6 w8 ⟨O7, hf9⟩
  simp only [nf0, nf1, nf2, nf3, nf4]
  have n10 := O7.offLow B3
  have O7_ := fun k hk => (O7.lt k hk).1
  replace O7 := O7.lower bel.size
  replace B3 := B3.below hf9
  replace bel := bl_step bel hf9
  clear hf9
  refine st_mv v6 ?_
  simp only [nf0, nf1, nf2, nf3, nf4]
  refine wpList_nil ?_
  show Code.wp _ _ _ _ _
  refine wp_seq ?_
  obtain ⟨A11, c12, hv13, h14, h15, h16, R17⟩ := O7.reads
  subst hv13
  rw [eInt_all] at R17
  clear O7
  have hrl := rowsL_len hS
  have hzl := vbz_len (n := ((rowsL S).length / 2 : Nat)) (by unfold I64; omega)
  refine wp_region_lit ?_
  refine st_mv (.slice A l.length cap) ?_
  simp only [nf0, nf1, nf2, nf3, nf4]
  refine st_mv (.slice A11 (rowsL S).length c12) ?_
  simp only [nf0, nf1, nf2, nf3, nf4]
  refine st_value (v := (.int .i64 ((rowsL S).length : Int))) (by rfl) (run_len (.tmp 9) rfl ⟨_, Tryd.underlying67⟩ rfl w8) ?_
  simp only [nf0, nf1, nf2, nf3, nf4]
  refine st_value (v := (.int .i64 ((((rowsL S).length) / 2 : Nat) : Int))) (by rfl) (run_quoN (.tmp 10) (.const (.int .i64 2)) (m := ((rowsL S).length)) (n := 2) rfl rfl rfl (by omega) (by omega) (by omega) (by omega) w8) ?_
  simp only [nf0, nf1, nf2, nf3, nf4]
  refine st_call (by rfl) (j_run_call_7_2 (.tmp 8) (.tmp 11) rfl rfl rfl _) (putInt_calls A l cap ((((rowsL S).length) / 2 : Nat) : Int) (by omega) w8 (hr.same bel) (by omega) hA) ?_
  rintro v18 w20 ⟨O19, hf21⟩
  simp only [nf0, nf1, nf2, nf3, nf4]
  have n22 := O19.offLow B3
  have O19_ := fun k hk => (O19.lt k hk).1
  replace O19 := O19.lower bel.size
  replace B3 := B3.below hf21
  replace R17 := R17.same hf21
  replace bel := bl_step bel hf21
  clear hf21
  refine st_mv (.slice A11 (rowsL S).length c12) ?_
  simp only [nf0, nf1, nf2, nf3, nf4]
  refine st_call (by rfl) (j_run_call_30_2 (.tmp 12) (.tmp 13) rfl rfl rfl _) (putAll_calls O19 bel.size R17 (rowsL_I64 hS) (by rw [List.length_append]; omega)) ?_
  rintro v23 w25 ⟨O24, hf26⟩
  simp only [nf0, nf1, nf2, nf3, nf4]
  replace B3 := B3.below hf26
  replace R17 := R17.same hf26
  replace bel := bl_step bel hf26
  clear hf26
  clear O19
  refine st_mv v23 ?_
  simp only [nf0, nf1, nf2, nf3, nf4]
  refine wpList_nil ?_
  show Code.wp _ _ _ _ _
  refine wp_ret ?_
  first | show bodyPost _ _ _ _ _ _ | (simp only [Exit.then, Exit.inBlock]; show bodyPost _ _ _ _ _ _)
  exact bodyPost_ret (results_tmp rfl _ _ _) rfl ⟨_, rfl, by have h := O24; rw [List.append_assoc] at h; exact h, bel⟩
end Go.Proofs.YtckmihjekgbcmaaDoor
